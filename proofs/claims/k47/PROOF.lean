import PyProof.Rows.All
import Wide.All
import OpenK.AllK
import Wide.FinOn
import HandS.ForMost
import HandS.Exc
import HandS.ExcOwn
import HandS.WordsExc
import HandS.TryOnly
import HandS.ExcInit
import HandS.ExcField
import HandS.ExcIs
import HandS.IsInst
import HandS.TryMany
import HandS.Wide
import HandS.Steps
import HandS.TupAny
import HandS.Walk
import HandS.Evl
import KE.GoesEnum
import KE.KExcIs
import HandS.Conv
import HandS.DictComp
import KE.KDictDisplayH
import HandS.Defaults
import HandS.Deep
import PyProof.EnumMake
import KE.GoesMore
import HandS.Replace
import HandS.ReplaceLit
import HandS.RaiseMore
import PyProof.ReprBulk
import HandS.IterVal
import HandS.Property
import HandS.Star
import HandS.OwnIter
import PyProof.ReprReads
import HandS.Small
import KE.KRevSl
import PySem.Challenge.RW_falseglim_k47_judged_readers
set_option Elab.async false
set_option linter.all false
set_option maxRecDepth 100000
set_option maxHeartbeats 4000000
set_option pp.maxSteps 400
set_option pp.maxSteps 600
set_option pp.maxSteps 800
namespace Fg
open PySem PySem.Spec PyProof.Rows L2

/-- a text by its signs -/
def S (l : List Nat) : V := .str ⟨l.toArray⟩
theorem S_inj {l m : List Nat} : S l = S m ↔ l = m := by
  constructor
  · intro h
    have h1 := V.str.inj h
    have h2 := congrArg PySem.Str.cps h1
    exact List.toArray_inj h2
  · rintro rfl; rfl
theorem S_dec {l m : List Nat} : decide (S l = S m) = decide (l = m) := by
  rw [Bool.eq_iff_iff]; simp [S_inj]
theorem str_len (l : List Nat) : (⟨l.toArray⟩ : Str).length = l.length := by
  show l.toArray.size = l.length
  simp
theorem pe_S {X : Cx} {x : Str} {j : Nat} {pos : Pos} (l : List Nat) (h : x = ⟨l.toArray⟩ := by decide +kernel) : PE X (.Constant (.str x) j pos) (tC (S l)) := by
  subst h
  exact pe_str

def or2 (r r' : R2) : R2 := fun x y H Q => r x y H Q ∨ r' x y H Q
theorem or2_op {X : Cx} {f : Value → Value → Sem Value} {r r' : R2} (h : OpR X f r) (h' : OpR X f r') : OpR X f (or2 r r') := by
  intro pins s σ H x y v u Q I rx ry q
  rcases q with q | q
  · exact h pins s σ H x y v u Q I rx ry q
  · exact h' pins s σ H x y v u Q I rx ry q
theorem or2_ix {X : Cx} {r r' : R2} (h : IxR X r) (h' : IxR X r') : IxR X (or2 r r') := by
  intro value slice pins s σ H x y v u Q I rx ry q hs
  rcases q with q | q
  · exact h value slice pins s σ H x y v u Q I rx ry q hs
  · exact h' value slice pins s σ H x y v u Q I rx ry q hs
abbrev RC := List V → Hp → VK → Prop
abbrev RS := V → Option Int → Option Int → Hp → VK → Prop
def orS (r r' : RS) : RS := fun x lo hi H Q => r x lo hi H Q ∨ r' x lo hi H Q
theorem orS_sl {X : Cx} {r r' : RS} (h : SlR X r) (h' : SlR X r') : SlR X (orS r r') := by
  intro pins s σ H x v vl vu lo hi sl Q I rx hs pl pu q
  rcases q with q | q
  · exact h pins s σ H x v vl vu lo hi sl Q I rx hs pl pu q
  · exact h' pins s σ H x v vl vu lo hi sl Q I rx hs pl pu q

def rAddI : R2 := rI0 fun i j => .int (i + j)
def rAddT : R2 := fun x y H Q => ∃ i j, x = .str i ∧ y = .str j ∧ i.length + j.length ≤ sizeLine ∧ Q (.str (i ++ j)) H
def addP (K : PySem.W.Frag) : R2 := or2 rAddI (or2 rAddT (or2 rCat (rCatA K)))
theorem op_addP {X : Cx} : OpR X (binaryOp .Add) (addP X.K) := or2_op op_add (or2_op op_add_str (or2_op op_cat op_catA))
def subP : R2 := rI0 fun i j => .int (i - j)
theorem op_subP {X : Cx} : OpR X (binaryOp .Sub) subP := op_sub
/-- a text so many times -/
def rRepS : R2 := fun x y H Q => ∃ (l : List Nat) (n : Nat), x = S l ∧ y = .int (n : Int) ∧ l.length * n ≤ 100000 ∧ n ≤ 100000 ∧ Q (S (List.replicate n l).flatten) H
theorem foldl_app (l : List Nat) : ∀ (n : Nat) (acc : List Nat), (List.replicate n l.toArray).foldl (· ++ ·) acc.toArray = (acc ++ (List.replicate n l).flatten).toArray
  | 0, acc => by simp
  | n + 1, acc => by
    rw [List.replicate_succ, List.foldl_cons, List.append_toArray, foldl_app l n (acc ++ l), List.replicate_succ, List.flatten_cons, List.append_assoc]
theorem op_repS {X : Cx} : OpR X (binaryOp .Mult) rRepS := by
  intro pins s σ H x y v u Q I rx ry h
  obtain ⟨l, n, rfl, rfl, hz, hn, q⟩ := h
  obtain ⟨t, rfl⟩ := rx
  obtain ⟨t', rfl⟩ := ry
  have hl := str_len l
  have hs : sizeLine = 16777216 := sizeLine_eq
  refine PySem.P.mul_str ?_ (fun h1 h2 => ?_) (fun h1 h2 => ?_) ?_
  · rw [decide_eq_false (by omega), decide_eq_false (by omega)]; rfl
  · rw [hl]
    have hn0 : (0 : Int) < (n : Int) := by omega
    have : ((l.length : Int)) ≤ (2 ^ 63 - 1) / (n : Int) := by
      rw [Int.le_ediv_iff_mul_le hn0]
      have : ((l.length * n : Nat) : Int) ≤ 100000 := by omega
      rw [Int.natCast_mul] at this
      omega
    omega
  · rw [hl, Int.toNat_natCast]
    unfold PySem.Builtin.Str.tooLong
    rw [decide_eq_false]
    omega
  · by_cases h1 : (n : Int) < 1
    · rw [if_pos h1]
      have e : n = 0 := by omega
      subst e
      exact ⟨by decide, S [], H, I.tok _, ⟨_, rfl⟩, by simpa using q⟩
    · rw [if_neg h1]
      by_cases h2 : ((n : Int) == 1 || (⟨l.toArray⟩ : Str).length == 0) = true
      · rw [if_pos h2]
        have e : (List.replicate n l).flatten = l := by
          rw [hl, Bool.or_eq_true, beq_iff_eq, beq_iff_eq] at h2
          rcases h2 with h2 | h2
          · have e : n = 1 := by omega
            subst e; simp
          · have e : l = [] := List.length_eq_zero_iff.mp h2
            subst e; simp
        rw [e] at q
        exact ⟨S l, H, I, ⟨_, rfl⟩, q⟩
      · rw [if_neg h2]
        have e : (⟨(List.replicate ((n : Int)).toNat l.toArray).foldl (· ++ ·) #[]⟩ : Str) = ⟨((List.replicate n l).flatten).toArray⟩ := by
          rw [Int.toNat_natCast]
          have := foldl_app l n []
          simpa using this
        refine ⟨?_, S (List.replicate n l).flatten, H, I.tok _, ⟨_, by rw [e]⟩, q⟩
        rw [e, str_len]
        simp only [List.length_flatten, List.map_replicate, List.sum_replicate_nat]
        rw [Nat.mul_comm]
        omega
def rMulI : R2 := rI (fun i j => IntMulOk i j) fun i j => .int (i * j)
theorem op_mulI {X : Cx} : OpR X (binaryOp .Mult) rMulI := opI fun _ _ _ _ _ _ _ hc q => mul_int q hc
def mulP : R2 := or2 rMulI (or2 rRepS rRep)
theorem op_mulP {X : Cx} : OpR X (binaryOp .Mult) mulP := or2_op op_mulI (or2_op op_repS op_rep)
def modP : R2 := rI (fun _ j => 0 < j) fun i j => .int (i % j)
theorem op_modP {X : Cx} : OpR X (binaryOp .Mod) modP := op_mod
def fdivP : R2 := rI CDivW fun i j => .int (i / j)
theorem op_fdivP {X : Cx} : OpR X (binaryOp .FloorDiv) fdivP := op_fdivW
/-- i ** j, the result below some hundred million bits -/
def powP : R2 := rI (fun i j => 0 ≤ j ∧ (Builtin.Int.intBits i : Int) * j ≤ 2 ^ 27) fun i j => .int (i ^ j.toNat)
theorem op_powP {X : Cx} : OpR X (binaryOp .Pow) powP := opI fun _ _ _ _ _ _ _ hc q => pow_int hc.1 hc.2 q
def eqP (K : PySem.W.Frag) : R2 := or2 rEq (rEqD K)
theorem op_eqP {X : Cx} (hu : X.A.units + 64 < cLine) : OpR X (compareOp .Eq) (eqP X.K) := or2_op op_eq (op_eqD hu)
def neP (K : PySem.W.Frag) : R2 := or2 rNe (rNeD K)
theorem op_neP {X : Cx} (hu : X.A.units + 64 < cLine) : OpR X (compareOp .NotEq) (neP X.K) := or2_op op_ne (op_neD hu)
def ltP : R2 := or2 (rI0 fun i j => .bl (decide (i < j))) fun x y H Q => ∃ i j, x = .str i ∧ y = .str j ∧ Q (.bl (decide (i.cps.toList < j.cps.toList))) H
theorem op_ltP {X : Cx} : OpR X (compareOp .Lt) ltP := or2_op op_lt op_lt_str
def leP : R2 := rI0 fun i j => .bl (decide (i ≤ j))
theorem op_leP {X : Cx} : OpR X (compareOp .LtE) leP := op_le
def gtP : R2 := rI0 fun i j => .bl (decide (j < i))
theorem op_gtP {X : Cx} : OpR X (compareOp .Gt) gtP := op_gt
def geP : R2 := rI0 fun i j => .bl (decide (j ≤ i))
theorem op_geP {X : Cx} : OpR X (compareOp .GtE) geP := op_ge
def isP : R2 := fun x y H Q => y = .non ∧ Q (.bl (decide (x = .non))) H
theorem op_isP {X : Cx} : OpR X (compareOp .Is) isP := op_isN
def isNotP : R2 := fun x y H Q => y = .non ∧ Q (.bl (!decide (x = .non))) H
def rInSg : R2 := fun x y H Q => ∃ (c : Nat) (z : Str), x = .str ⟨#[c]⟩ ∧ y = .str z ∧ Q (.bl (decide (c ∈ z.cps.toList))) H
def rNotInSg : R2 := fun x y H Q => ∃ (c : Nat) (z : Str), x = .str ⟨#[c]⟩ ∧ y = .str z ∧ Q (.bl (!decide (c ∈ z.cps.toList))) H
def inP (K : PySem.W.Frag) : R2 := or2 rInSg (rIn K false)
theorem op_inP {X : Cx} : OpR X (compareOp .In) (inP X.K) := or2_op op_in_sign op_in_seq
def notInP (K : PySem.W.Frag) : R2 := or2 rNotInSg (rIn K true)
theorem op_notInP {X : Cx} : OpR X (compareOp .NotIn) (notInP X.K) := or2_op op_notIn_sign op_notIn_seq
def ixP (K : PySem.W.Frag) : R2 := or2 (rIxL K) (or2 (rIxT K) rIxS)
theorem ix_P {X : Cx} : IxR X (ixP X.K) := or2_ix ix_list (or2_ix ix_tup ix_str)
def slP (K : PySem.W.Frag) : RS := orS (rSlL K) (orS (rSlA K) rSlS)
theorem sl_P {X : Cx} : SlR X (slP X.K) := orS_sl sl_list (orS_sl sl_tupA sl_str)
def iAny (K : PySem.W.Frag) (te : TE) : TI := fun σ H R => te σ H fun x H1 => (∃ a xs, x = .ref a ∧ SqL K H1 a xs ∧ R (Itl K a) H1) ∨ (∃ a xs, x = .ref a ∧ SqT K H1 a xs ∧ R (Itt K a) H1) ∨ (∃ z, x = .str z ∧ R (Its z) H1)
section
variable {X : Cx} {tg e : Expr} {te : TE}
theorem pi_any (he : PE X e te) : PI X tg e (iAny X.K te) := by
  refine ⟨fun pins s σ H R I h => thn (he.run pins s σ H _ I h) fun v s1 ⟨x, H1, J, r1, q1⟩ => ?_⟩
  rcases q1 with ⟨a, xs, rfl, hq, q⟩ | ⟨a, xs, rfl, hq, q⟩ | ⟨z, rfl, q⟩
  · cases r1
    obtain ⟨its, rv, pl, hz⟩ := J.list hq
    exact wpAny_pyIter_list pl.isList (pi_one (tk := s1.toks) J _ (turn_list a _) ⟨_, Heap.get?_push_size _ rfl, rfl, rfl⟩ q)
  · cases r1
    obtain ⟨its, rv, pl, hz⟩ := J.tuple hq
    exact wpAny_pyIter_tuple (show s1.heap.IsTuple a its.toArray from pl) (pi_one (tk := s1.toks) J _ (turn_tuple a _) ⟨_, Heap.get?_push_size _ rfl, rfl, rfl⟩ q)
  · obtain ⟨t, rfl⟩ := r1
    cases hw : z.cps.all (· < 128)
    · exact wpAny_pyIter_wide hw (pi_one (tk := s1.toks) J _ (turn_str _ z t "str_iterator" (.inr rfl)) ⟨_, Heap.get?_push_size _ rfl, rfl, rfl⟩ q)
    · exact wpAny_pyIter_ascii hw (pi_one (tk := s1.toks) J _ (turn_str _ z t "str_ascii_iterator" (.inl rfl)) ⟨_, Heap.get?_push_size _ rfl, rfl, rfl⟩ q)
end
end Fg
namespace Fg
open PySem PySem.Spec PyProof.Rows L2
section
variable {K : PySem.W.Frag} {σ : L2.St} {H : Hp} {Q : VK} {D : Ends} {ta tb tc te : TE} {t u : TT} {i j : Nat} {v x y : V} {tr tq : TS} {QB : Bool → Hp → Prop} {QL : List V → Hp → Prop} {Qs : L2.St → Hp → Prop} {tl : TA}
theorem i_var (h : σ[i]? = some (some v)) (q : Q v H) : tVar i σ H Q := ⟨v, h, q⟩
theorem i_c (q : Q v H) : tC v σ H Q := q
theorem i_seq (q : tr { D with nx := tq D } σ H) : tSeq tr tq D σ H := q
theorem i_next (q : D.nx σ H) : tNext D σ H := q
theorem i_asg {g : TG} (q : te σ H fun x H1 => g x σ H1 D.nx) : tAsg te g D σ H := q
theorem i_gname' {σ' : L2.St} (e : σ.set i (some v) = σ') (q : Qs σ' H) : gName i v σ H Qs := by
  subst e; exact q
theorem i_ret (q : te σ H D.rt) : tRet te D σ H := q
theorem i_retN (q : D.rt .non H) : tRetN D σ H := q
theorem i_drop (q : te σ H fun _ H1 => D.nx σ H1) : tDrop te D σ H := q
theorem i_ifS (q : t σ H fun b H1 => if b = true then tr D σ H1 else tq D σ H1) : tIfS t tr tq D σ H := q
theorem i_test (q : te σ H fun x H' => ∃ k, x = .bl k ∧ QB k H') : tTest te σ H QB := q
theorem i_B (q : te σ H fun x H' => ∃ k, x = .bl k ∧ QB k H') : tB te σ H QB := q
theorem i_exbl {P : Bool → Prop} {b : Bool} (q : P b) : ∃ k, V.bl b = .bl k ∧ P k := ⟨b, rfl, q⟩
theorem i_and (q : t σ H fun c H1 => if c = true then u σ H1 QB else QB false H1) : tAnd t u σ H QB := q
theorem i_or (q : t σ H fun c H1 => if c = true then QB true H1 else u σ H1 QB) : tOr t u σ H QB := q
theorem i_not (q : t σ H fun c H1 => QB (!c) H1) : tNot t σ H QB := q
theorem i_andV (q : ta σ H fun x H1 => ∃ c, x = .bl c ∧ if c = true then tb σ H1 Q else Q (.bl false) H1) : tAndV ta tb σ H Q := q
theorem i_orV (q : ta σ H fun x H1 => ∃ c, x = .bl c ∧ if c = true then Q (.bl true) H1 else tb σ H1 Q) : tOrV ta tb σ H Q := q
theorem i_notV (q : ta σ H fun x H1 => ∃ c, x = .bl c ∧ Q (.bl (!c)) H1) : tNotV ta σ H Q := q
theorem i_ifE (q : t σ H fun c H1 => if c = true then ta σ H1 Q else tb σ H1 Q) : tIf t ta tb σ H Q := q
theorem i_op {r : R2} (q : ta σ H fun x H1 => tb σ H1 fun y H2 => r x y H2 Q) : tOp r ta tb σ H Q := q
theorem i_un {r : V → Hp → VK → Prop} (q : ta σ H fun x H1 => r x H1 Q) : tUn r ta σ H Q := q
theorem i_neg {k : Int} (q : Q (.int (-k)) H) : rU (fun i => .int (-i)) (.int k) H Q := ⟨k, rfl, q⟩
theorem i_chain {r r' : R2} (q : ta σ H fun x H1 => tb σ H1 fun y H2 => r x y H2 fun z H3 => ∃ k, z = .bl k ∧ (if k = true then tc σ H3 fun w' H4 => r' y w' H4 Q else Q (.bl false) H3)) : tChain r r' ta tb tc σ H Q := q
theorem i_nil (q : QL [] H) : tNil σ H QL := q
theorem i_cons (q : te σ H fun x H1 => tl σ H1 fun xs H2 => QL (x :: xs) H2) : tCons te tl σ H QL := q
theorem i_call {sp : Sp} {E : XK} (q : tl σ H fun vs H1 => sp (vs ++ []) H1 Q E) : tCall sp [] E tl σ H Q := q
theorem i_callS {sp : Sp} {E : L2.St → XK} (q : tl σ H fun vs H1 => sp vs H1 Q (E σ)) : tCallS sp E tl σ H Q := q
theorem i_cb {r : RC} (q : tl σ H fun vs H1 => r vs H1 Q) : tCB r tl σ H Q := q
theorem i_tup (q : tl σ H fun xs H1 => xs.length ≤ sizeLine ∧ ∀ p, H1 p = none → Q (.ref p) (upd H1 p (.tup xs))) : tTup tl σ H Q := q
theorem i_lst (q : tl σ H fun xs H1 => xs.length ≤ sizeLine ∧ ∀ p, H1 p = none → Q (.ref p) (upd H1 p (.lst xs))) : tLst tl σ H Q := q
theorem i_new {n : Nat} {P : Addr → Prop} (h : n ≤ 100000) (q : ∀ p, H p = none → P p) : n ≤ sizeLine ∧ ∀ p, H p = none → P p := ⟨Nat.le_trans h (by decide), q⟩
theorem i_sl {r : RS} {t1 t2 : TO} (q : te σ H fun x H1 => t1 σ H1 fun l H2 => t2 σ H2 fun u H3 => r x l u H3 Q) : tSl r te t1 t2 σ H Q := q
theorem i_nopart {QO : Option Int → Hp → Prop} (q : QO none H) : tNoPart σ H QO := q
theorem i_part {QO : Option Int → Hp → Prop} (q : te σ H fun x H1 => ∃ i, x = .int i ∧ QO (some i) H1) : tPart te σ H QO := q
theorem i_exint {P : Int → Prop} {k : Int} (q : P k) : ∃ i, V.int k = .int i ∧ P i := ⟨k, rfl, q⟩
theorem i_dec {c : Prop} [Decidable c] {A B : Prop} (h1 : c → A) (h2 : ¬ c → B) : if decide c = true then A else B := by
  by_cases h : c
  · rw [decide_eq_true h, if_pos rfl]; exact h1 h
  · rw [decide_eq_false h, if_neg (by decide)]; exact h2 h
theorem i_decN {c : Prop} [Decidable c] {A B : Prop} (h1 : ¬ c → A) (h2 : c → B) : if (!decide c) = true then A else B := by
  by_cases h : c
  · rw [decide_eq_true h]; exact h2 h
  · rw [decide_eq_false h]; exact h1 h
theorem i_tt {A B : Prop} (h : A) : if true = true then A else B := h
theorem i_ff {A B : Prop} (h : B) : if false = true then A else B := h
theorem i_nott {A B : Prop} (h : B) : if (!true) = true then A else B := h
theorem i_notf {A B : Prop} (h : A) : if (!false) = true then A else B := h
variable {a b : Int} {l m : List Nat}
theorem i_add_int (q : Q (.int (a + b)) H) : addP K (.int a) (.int b) H Q := .inl ⟨a, b, rfl, rfl, q⟩
theorem i_add_str (h : l.length + m.length ≤ 100000) (q : Q (S (l ++ m)) H) : addP K (S l) (S m) H Q := by
  refine .inr (.inl ⟨⟨l.toArray⟩, ⟨m.toArray⟩, rfl, rfl, ?_, ?_⟩)
  · rw [str_len, str_len]; exact Nat.le_trans h (by decide)
  · have e : (⟨l.toArray⟩ : Str) ++ ⟨m.toArray⟩ = ⟨(l ++ m).toArray⟩ := by
      show (⟨l.toArray ++ m.toArray⟩ : Str) = _
      rw [List.append_toArray]
    rw [e]; exact q
theorem i_sub (q : Q (.int (a - b)) H) : subP (.int a) (.int b) H Q := ⟨a, b, rfl, rfl, q⟩
theorem i_mul_int (h : IntMulOk a b) (q : Q (.int (a * b)) H) : mulP (.int a) (.int b) H Q := .inl ⟨a, b, rfl, rfl, h, q⟩
theorem cdiv_small {a b : Int} (h : 0 < b) (h2 : b < 2 ^ 62) : CDivW a b := wide_div (b := 62) h (by omega) (by decide) (by decide)
theorem mul_small {a b : Int} (h : -(2 ^ 64) < a) (h2 : a < 2 ^ 64) : IntMulOk a b := CMul.ok (.inl ⟨h, h2⟩)
theorem mul_smallR {a b : Int} (h : -(2 ^ 64) < b) (h2 : b < 2 ^ 64) : IntMulOk a b := CMul.ok (.inr ⟨h, h2⟩)
theorem i_mod (h : 0 < b) (q : Q (.int (a % b)) H) : modP (.int a) (.int b) H Q := ⟨a, b, rfl, rfl, h, q⟩
theorem i_fdiv (h : CDivW a b) (q : Q (.int (a / b)) H) : fdivP (.int a) (.int b) H Q := ⟨a, b, rfl, rfl, h, q⟩
theorem i_pow (h : 0 ≤ b ∧ (Builtin.Int.intBits a : Int) * b ≤ 2 ^ 27) (q : Q (.int (a ^ b.toNat)) H) : powP (.int a) (.int b) H Q := ⟨a, b, rfl, rfl, h, q⟩
theorem i_eq_int (q : Q (.bl (decide (a = b))) H) : eqP K (.int a) (.int b) H Q := .inl ⟨rfl, by rw [dec_int, Bool.beq_eq_decide_eq]; exact q⟩
theorem i_eq_str (q : Q (.bl (decide (l = m))) H) : eqP K (S l) (S m) H Q := .inl ⟨rfl, by rw [S_dec]; exact q⟩
theorem i_ne_int (q : Q (.bl (!decide (a = b))) H) : neP K (.int a) (.int b) H Q := .inl ⟨rfl, by rw [dec_int, Bool.beq_eq_decide_eq]; exact q⟩
theorem i_ne_str (q : Q (.bl (!decide (l = m))) H) : neP K (S l) (S m) H Q := .inl ⟨rfl, by rw [S_dec]; exact q⟩
theorem i_eq_bl {b c : Bool} (q : Q (.bl (decide (b = c))) H) : eqP K (.bl b) (.bl c) H Q := .inl ⟨rfl, by rw [dec_bl, Bool.beq_eq_decide_eq]; exact q⟩
theorem i_ne_bl {b c : Bool} (q : Q (.bl (!decide (b = c))) H) : neP K (.bl b) (.bl c) H Q := .inl ⟨rfl, by rw [dec_bl, Bool.beq_eq_decide_eq]; exact q⟩
theorem i_lt (q : Q (.bl (decide (a < b))) H) : ltP (.int a) (.int b) H Q := .inl ⟨a, b, rfl, rfl, q⟩
theorem i_le (q : Q (.bl (decide (a ≤ b))) H) : leP (.int a) (.int b) H Q := ⟨a, b, rfl, rfl, q⟩
theorem i_gt (q : Q (.bl (decide (b < a))) H) : gtP (.int a) (.int b) H Q := ⟨a, b, rfl, rfl, q⟩
theorem i_ge (q : Q (.bl (decide (b ≤ a))) H) : geP (.int a) (.int b) H Q := ⟨a, b, rfl, rfl, q⟩
theorem i_is_non (q : Q (.bl true) H) : isP .non .non H Q := ⟨rfl, q⟩
theorem i_is_int (q : Q (.bl false) H) : isP (.int a) .non H Q := ⟨rfl, q⟩
theorem i_is_str (q : Q (.bl false) H) : isP (S l) .non H Q := ⟨rfl, q⟩
theorem i_is_ref {p : Addr} (q : Q (.bl false) H) : isP (.ref p) .non H Q := ⟨rfl, q⟩
theorem i_isn_non (q : Q (.bl false) H) : isNotP .non .non H Q := ⟨rfl, q⟩
theorem i_isn_int (q : Q (.bl true) H) : isNotP (.int a) .non H Q := ⟨rfl, q⟩
theorem i_isn_str (q : Q (.bl true) H) : isNotP (S l) .non H Q := ⟨rfl, q⟩
theorem i_isn_ref {p : Addr} (q : Q (.bl true) H) : isNotP (.ref p) .non H Q := ⟨rfl, q⟩
theorem i_in_sg {c : Nat} (q : Q (.bl (decide (c ∈ m))) H) : inP K (S [c]) (S m) H Q := .inl ⟨c, ⟨m.toArray⟩, rfl, rfl, by simpa using q⟩
theorem i_notIn_sg {c : Nat} (q : Q (.bl (!decide (c ∈ m))) H) : notInP K (S [c]) (S m) H Q := .inl ⟨c, ⟨m.toArray⟩, rfl, rfl, by simpa using q⟩
theorem atI_int {xs : List V} {z : Int} {v : V} (h0 : 0 ≤ z) (h : xs[z.toNat]? = some v) : atI xs z = some v := at_of (j := z.toNat) (by omega) h
theorem i_ix_lst {p : Addr} {xs : List V} {z : Int} {v : V} (hs : SqL K H p xs) (ha : atI xs z = some v) (q : Q v H) : ixP K (.ref p) (.int z) H Q := .inl ⟨p, xs, z, v, rfl, rfl, hs, ha, q⟩
theorem i_ix_tup {p : Addr} {xs : List V} {z : Int} {v : V} (hs : SqT K H p xs) (ha : atI xs z = some v) (q : Q v H) : ixP K (.ref p) (.int z) H Q := .inr (.inl ⟨p, xs, z, v, rfl, rfl, hs, ha, q⟩)
theorem i_ix_str {z : Int} {c : Nat} (hs : l.length ≤ 100000) (h0 : 0 ≤ z) (ha : l[z.toNat]? = some c) (q : Q (S [c]) H) : ixP K (S l) (.int z) H Q := by
  refine .inr (.inr ⟨⟨l.toArray⟩, z, c, rfl, rfl, ?_, ?_, q⟩)
  · rw [str_len]; exact Nat.le_trans hs (by decide)
  · have e : z = ((z.toNat : Nat) : Int) := by omega
    rw [e]
    exact atI_nat (by simpa using ha)
def cutN (l : List Nat) (lo hi : Option Int) : List Nat := (l.drop (HT.sIx l.length 0 lo)).take (HT.sIx l.length l.length hi - HT.sIx l.length 0 lo)
theorem i_sl_str {lo hi : Option Int} (hs : l.length ≤ 100000) (q : Q (S (cutN l lo hi)) H) : slP K (S l) lo hi H Q := by
  refine .inr (.inr ⟨⟨l.toArray⟩, rfl, ?_, ?_⟩)
  · rw [str_len]; exact Nat.le_trans hs (by decide)
  · have e : cutS ⟨l.toArray⟩ lo hi = ⟨(cutN l lo hi).toArray⟩ := by
      unfold cutS cutN
      rw [str_len]
    rw [e]; exact q
theorem cutN_to {l : List Nat} {k : Int} (h : 0 ≤ k) : cutN l none (some k) = l.take k.toNat := by
  unfold cutN
  have e : k = ((k.toNat : Nat) : Int) := by omega
  rw [e, HT.sIx_nat, HT.sIx_none, Nat.sub_zero, List.drop_zero, Int.toNat_natCast]
  by_cases hk : k.toNat ≤ l.length
  · rw [Nat.min_eq_left hk]
  · rw [Nat.min_eq_right (by omega), List.take_length, List.take_of_length_le (by omega)]
theorem cutN_from {l : List Nat} {k : Int} (h : 0 ≤ k) : cutN l (some k) none = l.drop k.toNat := by
  unfold cutN
  have e : k = ((k.toNat : Nat) : Int) := by omega
  rw [e, HT.sIx_nat, HT.sIx_none, Int.toNat_natCast]
  by_cases hk : k.toNat ≤ l.length
  · rw [Nat.min_eq_left hk]
    exact List.take_of_length_le (by rw [List.length_drop]; omega)
  · rw [Nat.min_eq_right (by omega), Nat.sub_self, List.take_zero, List.drop_of_length_le (by omega)]
theorem i_sl_to {k : Int} (hs : l.length ≤ 100000) (h0 : 0 ≤ k) (q : Q (S (l.take k.toNat)) H) : slP K (S l) none (some k) H Q := i_sl_str hs (by rw [cutN_to h0]; exact q)
theorem i_sl_from {k : Int} (hs : l.length ≤ 100000) (h0 : 0 ≤ k) (q : Q (S (l.drop k.toNat)) H) : slP K (S l) (some k) none H Q := i_sl_str hs (by rw [cutN_from h0]; exact q)
def rLenP (K : PySem.W.Frag) : RC := fun xs H Q => ∃ x n, xs = [x] ∧ LenV K x H n ∧ Q (.int n) H
theorem call_lenP {X : Cx} : CallR X (.builtin "len") (rLenP X.K) := call_len
theorem i_len_str (hs : l.length ≤ 100000) (q : Q (.int (l.length : Int)) H) : rLenP K [S l] H Q := ⟨S l, l.length, rfl, ⟨by rw [str_len]; exact Nat.le_trans hs (by decide), (str_len l).symm⟩, q⟩
theorem i_len_lst {p : Addr} {xs : List V} (hs : SqL K H p xs) (q : Q (.int (xs.length : Int)) H) : rLenP K [.ref p] H Q := ⟨.ref p, xs.length, rfl, .inl ⟨xs, hs, rfl⟩, q⟩
theorem i_len_tup {p : Addr} {xs : List V} (hs : SqT K H p xs) (q : Q (.int (xs.length : Int)) H) : rLenP K [.ref p] H Q := ⟨.ref p, xs.length, rfl, .inr ⟨xs, hs, rfl⟩, q⟩
def rIntP : RC := fun xs H Q => (∃ i, xs = [.int i] ∧ Q (.int i) H) ∨ ∃ k, xs = [.bl k] ∧ Q (.int (if k then 1 else 0)) H
theorem call_intP {X : Cx} : CallR X (.type "int") rIntP := call_int1
theorem i_int_int (q : Q (.int a) H) : rIntP [.int a] H Q := .inl ⟨a, rfl, q⟩
def rAbsP : RC := fun xs H Q => ∃ i, xs = [.int i] ∧ Q (.int (if i < 0 then -i else i)) H
theorem call_absP {X : Cx} : CallR X (.builtin "abs") rAbsP := call_abs
theorem i_abs (q : Q (.int (if a < 0 then -a else a)) H) : rAbsP [.int a] H Q := ⟨a, rfl, q⟩
theorem i_sum {p : Addr} {ns : List Int} (hs : SqL K H p (ns.map V.int)) (q : Q (.int ns.sum) H) : rSum K [.ref p] H Q := ⟨p, ns, rfl, hs, q⟩
def rTupP (K : PySem.W.Frag) : RC := fun xs H Q => ∃ p ys, xs = [.ref p] ∧ ((SqL K H p ys ∧ ∀ l, H l = none → Q (.ref l) (upd H l (.tup ys))) ∨ (SqT K H p ys ∧ Q (.ref p) H))
theorem call_tupP {X : Cx} : CallR X (.type "tuple") (rTupP X.K) := call_tuple_of
theorem i_tuple_lst {p : Addr} {ys : List V} (hs : SqL K H p ys) (q : ∀ l, H l = none → Q (.ref l) (upd H l (.tup ys))) : rTupP K [.ref p] H Q := ⟨p, ys, rfl, .inl ⟨hs, q⟩⟩
theorem i_isi_non_int (q : Q (.bl false) H) : rIsi K [.non, .ty "int"] H Q := ⟨_, _, _, _, false, rfl, .ty _, .base .non, kit_ty (by decide +kernel), q⟩
theorem i_isi_non_bool (q : Q (.bl false) H) : rIsi K [.non, .ty "bool"] H Q := ⟨_, _, _, _, false, rfl, .ty _, .base .non, kit_ty (by decide +kernel), q⟩
theorem i_isi_non_str (q : Q (.bl false) H) : rIsi K [.non, .ty "str"] H Q := ⟨_, _, _, _, false, rfl, .ty _, .base .non, kit_ty (by decide +kernel), q⟩
theorem i_isi_non_tuple (q : Q (.bl false) H) : rIsi K [.non, .ty "tuple"] H Q := ⟨_, _, _, _, false, rfl, .ty _, .base .non, kit_ty (by decide +kernel), q⟩
theorem i_isi_non_list (q : Q (.bl false) H) : rIsi K [.non, .ty "list"] H Q := ⟨_, _, _, _, false, rfl, .ty _, .base .non, kit_ty (by decide +kernel), q⟩
theorem i_isi_bl_int {b : Bool} (q : Q (.bl true) H) : rIsi K [(.bl b), .ty "int"] H Q := ⟨_, _, _, _, true, rfl, .ty _, .base (.bl b), kit_ty (by decide +kernel), q⟩
theorem i_isi_bl_bool {b : Bool} (q : Q (.bl true) H) : rIsi K [(.bl b), .ty "bool"] H Q := ⟨_, _, _, _, true, rfl, .ty _, .base (.bl b), kit_ty (by decide +kernel), q⟩
theorem i_isi_bl_str {b : Bool} (q : Q (.bl false) H) : rIsi K [(.bl b), .ty "str"] H Q := ⟨_, _, _, _, false, rfl, .ty _, .base (.bl b), kit_ty (by decide +kernel), q⟩
theorem i_isi_bl_tuple {b : Bool} (q : Q (.bl false) H) : rIsi K [(.bl b), .ty "tuple"] H Q := ⟨_, _, _, _, false, rfl, .ty _, .base (.bl b), kit_ty (by decide +kernel), q⟩
theorem i_isi_bl_list {b : Bool} (q : Q (.bl false) H) : rIsi K [(.bl b), .ty "list"] H Q := ⟨_, _, _, _, false, rfl, .ty _, .base (.bl b), kit_ty (by decide +kernel), q⟩
theorem i_isi_int_int {i : Int} (q : Q (.bl true) H) : rIsi K [(.int i), .ty "int"] H Q := ⟨_, _, _, _, true, rfl, .ty _, .base (.int i), kit_ty (by decide +kernel), q⟩
theorem i_isi_int_bool {i : Int} (q : Q (.bl false) H) : rIsi K [(.int i), .ty "bool"] H Q := ⟨_, _, _, _, false, rfl, .ty _, .base (.int i), kit_ty (by decide +kernel), q⟩
theorem i_isi_int_str {i : Int} (q : Q (.bl false) H) : rIsi K [(.int i), .ty "str"] H Q := ⟨_, _, _, _, false, rfl, .ty _, .base (.int i), kit_ty (by decide +kernel), q⟩
theorem i_isi_int_tuple {i : Int} (q : Q (.bl false) H) : rIsi K [(.int i), .ty "tuple"] H Q := ⟨_, _, _, _, false, rfl, .ty _, .base (.int i), kit_ty (by decide +kernel), q⟩
theorem i_isi_int_list {i : Int} (q : Q (.bl false) H) : rIsi K [(.int i), .ty "list"] H Q := ⟨_, _, _, _, false, rfl, .ty _, .base (.int i), kit_ty (by decide +kernel), q⟩
theorem i_isi_str_int {l : List Nat} (q : Q (.bl false) H) : rIsi K [(S l), .ty "int"] H Q := ⟨_, _, _, _, false, rfl, .ty _, .base (.str _), kit_ty (by decide +kernel), q⟩
theorem i_isi_str_bool {l : List Nat} (q : Q (.bl false) H) : rIsi K [(S l), .ty "bool"] H Q := ⟨_, _, _, _, false, rfl, .ty _, .base (.str _), kit_ty (by decide +kernel), q⟩
theorem i_isi_str_str {l : List Nat} (q : Q (.bl true) H) : rIsi K [(S l), .ty "str"] H Q := ⟨_, _, _, _, true, rfl, .ty _, .base (.str _), kit_ty (by decide +kernel), q⟩
theorem i_isi_str_tuple {l : List Nat} (q : Q (.bl false) H) : rIsi K [(S l), .ty "tuple"] H Q := ⟨_, _, _, _, false, rfl, .ty _, .base (.str _), kit_ty (by decide +kernel), q⟩
theorem i_isi_str_list {l : List Nat} (q : Q (.bl false) H) : rIsi K [(S l), .ty "list"] H Q := ⟨_, _, _, _, false, rfl, .ty _, .base (.str _), kit_ty (by decide +kernel), q⟩
def rJoinP (K : PySem.W.Frag) : V → List V → Hp → VK → Prop := fun x xs H Q => ∃ a p, ∃ ys : List Str, x = .str a ∧ xs = [.ref p] ∧ (SqL K H p (ys.map V.str) ∨ SqT K H p (ys.map V.str)) ∧ (ys.map (·.length)).sum + ys.length * a.length ≤ 16777216 ∧ Q (.str (Txt.join a ys)) H
theorem pe_joinP {X : Cx} {to te : TE} {o e : Expr} {apos pos : Pos} (ho : PE X o to) (he : PE X e te) (hs : starEach [e] X.env = [(false, eval e X.env)] := by rfl) (hbase : attributeBase o "join" X.env (eval o X.env) = eval o X.env := by rfl) (hline : (apos.endLine == pos.line) = true := by rfl) :
    PE X (.Call (.Attribute o "join" apos) [e] [] pos) (tM1 (rJoinP X.K) to te) := pe_join ho he hs hbase hline
theorem i_m1c {r : V → List V → Hp → VK → Prop} (q : te σ H fun y H2 => r (S l) [y] H2 Q) : tM1 r (tC (S l)) te σ H Q := ⟨⟨_, rfl⟩, q⟩
end
end Fg
namespace Fg
open PySem PySem.Spec PyProof.Rows L2
/-- a def of the text: where it stands, how it is called -/
def DefIn (K : PySem.W.Frag) (mg : Str → Option Value) (x : Str) (st : Stmt) (ps : List Str) : Prop :=
  ∃ (f : Addr) (fd : FuncData), Fun K x x st f fd ∧ mg x = some (.ref f) ∧ Binds K fd ps []
/-- .. and it keeps its promise -/
def OK (P : Program) (w : World) (K : PySem.W.Frag) (mg : Str → Option Value) (base : Heap) (CX : CXT) (k : Nat) (x : Str) (ps : List Str) (sp : Sp) : Prop :=
  ∃ (f : Addr) (fd : FuncData), FnOk P w K mg base CX k f fd ps sp ∧ mg x = some (.ref f) ∧ PySem.W.keepIn K (.ref f) = true ∧ Binds K fd ps []
abbrev P1 := V → Hp → VK → XK → Prop
abbrev P2 := V → V → Hp → VK → XK → Prop
abbrev P3 := V → V → V → Hp → VK → XK → Prop
abbrev P4 := V → V → V → V → Hp → VK → XK → Prop
def sp1 (p : P1) : Sp := fun vs H Q E => ∃ x, vs = [x] ∧ p x H Q E
def sp2 (p : P2) : Sp := fun vs H Q E => ∃ x y, vs = [x, y] ∧ p x y H Q E
def sp3 (p : P3) : Sp := fun vs H Q E => ∃ x y z, vs = [x, y, z] ∧ p x y z H Q E
def sp4 (p : P4) : Sp := fun vs H Q E => ∃ x y z u, vs = [x, y, z, u] ∧ p x y z u H Q E
section
variable {H : Hp} {Q : VK} {E : XK} {x y z u : V} {p1 : P1} {p2 : P2} {p3 : P3} {p4 : P4}
theorem i_sp1 (q : p1 x H Q E) : sp1 p1 ([x] ++ []) H Q E := ⟨x, rfl, q⟩
theorem i_sp2 (q : p2 x y H Q E) : sp2 p2 ([x, y] ++ []) H Q E := ⟨x, y, rfl, q⟩
theorem i_sp3 (q : p3 x y z H Q E) : sp3 p3 ([x, y, z] ++ []) H Q E := ⟨x, y, z, rfl, q⟩
theorem i_sp4 (q : p4 x y z u H Q E) : sp4 p4 ([x, y, z, u] ++ []) H Q E := ⟨x, y, z, u, rfl, q⟩
theorem i_sp1' (q : p1 x H Q E) : sp1 p1 [x] H Q E := ⟨x, rfl, q⟩
theorem i_sp2' (q : p2 x y H Q E) : sp2 p2 [x, y] H Q E := ⟨x, y, rfl, q⟩
theorem i_sp3' (q : p3 x y z H Q E) : sp3 p3 [x, y, z] H Q E := ⟨x, y, z, rfl, q⟩
end
section
variable {P : Program} {w : World} {K : PySem.W.Frag} {mg : Str → Option Value} {base : Heap} {x : Str} {st : Stmt} {N ps : List Str} {k : Nat} {sp : Sp}
theorem FnOK.mk {f : Addr} {fd : FuncData} (F : Fun K x x st f fd) (S : FnScope N ps (defScope st)) (len : ∀ vs H Q E, sp vs H Q E → vs.length = ps.length)
    (body : ∀ (cdv : Value) (A : Around) (outer : List Env) (s : Shared) (H : Hp) (vs : List V) (Q : VK) (E : XK), Room k (A.deeper (envOfC x (defScope st) s.heap.objs.size f cdv)) → sp vs H Q E →
      ∃ t, PSs (cxOf CX0 P w K mg base N x (defScope st) f cdv A outer s H E).nox (defBody st) t ∧ t { nx := fun _ H' => Q .non H', rt := Q } (start N vs) H) : FnOk P w K mg base CX0 (k + 1) f fd ps sp :=
  F.ok S len fun cdv A outer s H vs Q E hr h => body cdv A outer s H vs Q E hr h
theorem OK.mk (D : DefIn K mg x st ps) (S : FnScope N ps (defScope st)) (len : ∀ vs H Q E, sp vs H Q E → vs.length = ps.length)
    (body : ∀ (f : Addr) (cdv : Value) (A : Around) (outer : List Env) (s : Shared) (H : Hp) (vs : List V) (Q : VK) (E : XK), Room k (A.deeper (envOfC x (defScope st) s.heap.objs.size f cdv)) → sp vs H Q E →
      ∃ t, PSs (cxOf CX0 P w K mg base N x (defScope st) f cdv A outer s H E).nox (defBody st) t ∧ t { nx := fun _ H' => Q .non H', rt := Q } (start N vs) H) : OK P w K mg base CX0 (k + 1) x ps sp := by
  obtain ⟨f, fd, F, hm, hb⟩ := D
  exact ⟨f, fd, F.ok S len fun cdv A outer s H vs Q E hr h => body f cdv A outer s H vs Q E hr h, hm, F.kp, hb⟩
theorem OK.mkX (D : DefIn K mg x st ps) (S : FnScope N ps (defScope st)) (len : ∀ vs H Q E, sp vs H Q E → vs.length = ps.length)
    (body : ∀ (f : Addr) (cdv : Value) (A : Around) (outer : List Env) (s : Shared) (H : Hp) (vs : List V) (Q : VK) (E : XK), Room k (A.deeper (envOfC x (defScope st) s.heap.objs.size f cdv)) → sp vs H Q E →
      ∃ t, PSs (cxOf (L2.CX P w) P w K mg base N x (defScope st) f cdv A outer s H E) (defBody st) t ∧ t { nx := fun _ H' => Q .non H', rt := Q } (start N vs) H) : OK P w K mg base (L2.CX P w) (k + 1) x ps sp := by
  obtain ⟨f, fd, F, hm, hb⟩ := D
  exact ⟨f, fd, F.okX S len fun cdv A outer s H vs Q E hr h => body f cdv A outer s H vs Q E hr h, hm, F.kp, hb⟩
theorem len1 {p : P1} {a : Str} : ∀ vs H Q E, sp1 p vs H Q E → vs.length = [a].length := by
  rintro vs H Q E ⟨_, rfl, _⟩; rfl
theorem len2 {p : P2} {a b : Str} : ∀ vs H Q E, sp2 p vs H Q E → vs.length = [a, b].length := by
  rintro vs H Q E ⟨_, _, rfl, _⟩; rfl
theorem len3 {p : P3} {a b c : Str} : ∀ vs H Q E, sp3 p vs H Q E → vs.length = [a, b, c].length := by
  rintro vs H Q E ⟨_, _, _, rfl, _⟩; rfl
theorem len4 {p : P4} {a b c d : Str} : ∀ vs H Q E, sp4 p vs H Q E → vs.length = [a, b, c, d].length := by
  rintro vs H Q E ⟨_, _, _, _, rfl, _⟩; rfl
theorem OK.weak {CX : CXT} {sp' : Sp} (G : OK P w K mg base CX k x ps sp) (h : ∀ vs H Q E, sp' vs H Q E → sp vs H Q E) : OK P w K mg base CX k x ps sp' := by
  obtain ⟨f, fd, F, r⟩ := G
  exact ⟨f, fd, F.imp h, r⟩
end
section
variable {X : Cx} {CX : CXT} {k : Nat} {x : Str} {ps : List Str} {sp : Sp} {E : XK} {e : Expr} {es : List Expr} {ta : TA} {p pos : Pos}
theorem pe_f (G : OK X.prog X.w X.K X.mg X.base CX k x ps sp) (hr : Room k X.A) (hx : Passes CX X E) (ha : PA X (e :: es) ta) (hg : Gl X x := by rfl) (hd : (x == ("__debug__" : Str)) = false := by decide)
    (he : starEach (e :: es) X.env = (false, eval e X.env) :: starEach es X.env := by rfl) (hpl : (backTo pos (starEach es X.env)).any (·.1) = false := by rfl) :
    PE X (.Call (.Name x p) (e :: es) [] pos) (tCall sp [] E ta) := by
  obtain ⟨f, fd, F, hm, hk, hb⟩ := G
  exact pe_call F hr hg hm hk hb .nil hx ha hd he hpl
theorem pe_gS (l : List Nat) (h : ∃ t, X.mg x = some (.str ⟨l.toArray⟩ t)) (hg : Gl X x := by rfl) (hd : (x == ("__debug__" : Str)) = false := by decide) : PE X (.Name x pos) (tC (S l)) := by
  obtain ⟨t, hm⟩ := h
  exact pe_glob hg hm ⟨t, rfl⟩ hd
theorem pe_gI (i : Int) (h : ∃ t, X.mg x = some (.int i t)) (hg : Gl X x := by rfl) (hd : (x == ("__debug__" : Str)) = false := by decide) : PE X (.Name x pos) (tC (.int i)) := by
  obtain ⟨t, hm⟩ := h
  exact pe_glob hg hm ⟨t, rfl⟩ hd
end
/-- what its __init__ promises -/
def spIni (C : Addr) (f : Str) : Sp := sp2 fun x v H Q _ => ∃ a, x = .ref a ∧ H a = some (exo a C none) ∧ ∀ dx, H dx = none → dx ≠ a → Q .non (upd (upd H dx (exd dx [(f, v)])) a (exo a C (some dx)))
def OKx (P : Program) (w : World) (K : PySem.W.Frag) (mg : Str → Option Value) (base : Heap) (x f : Str) (C : Addr) : Prop :=
  mg x = some (.ref C) ∧ OexC K C ∧ PySem.W.findIn K (.ref C) f = some none ∧ ∃ (fI : Addr) (fd : FuncData), PySem.W.findIn K (.ref C) "__init__" = some (some (.ref fI)) ∧ PySem.W.typeIn K (.ref fI) = some (.type "function") ∧
    FnOk P w K mg base CX0 1 fI fd ["self", f] (spIni C f) ∧ Binds K fd ["self", f] []
theorem ini_ok {P : Program} {w : World} {K : PySem.W.Frag} {mg : Str → Option Value} {base : Heap} {C fI : Addr} {f q : Str} {st : Stmt} {fd : FuncData} (F : Fun K "__init__" q st fI fd) (S : FnScope ["self", f] ["self", f] (defScope st))
    (ox : OexC K C) (noF : PySem.W.findIn K (.ref C) f = some none)
    (hb : ∀ (cdv : Value) (A : Around) (outer : List Env) (s : Shared) (H : Hp) (E : XK), PSs (cxOf CX0 P w K mg base ["self", f] q (defScope st) fI cdv A outer s H E).nox (defBody st) (tOst K f (tVar 0) (tVar 1))) :
    FnOk P w K mg base CX0 1 fI fd ["self", f] (spIni C f) := by
  refine F.ok S (fun vs H Q E h => len2 vs H Q E h) fun cdv A outer s H vs Q E hr h => ⟨_, hb cdv A outer s H E, ?_⟩
  obtain ⟨x, v, rfl, a, rfl, ha, q⟩ := h
  exact ⟨v, rfl, .ref a, rfl, a, C, rfl, ox, noF, .inl ⟨ha, fun dx n ne => q dx n ne⟩⟩
/-- C(e): an error whose dict, new, holds the field -/
def tMkE (C : Addr) (f : Str) (ta : TA) : L2.St → Hp → XK → Prop := fun σ H Q => ta σ H fun vs H1 => ∃ v, vs = [v] ∧ ∀ d, H1 d = none → Q (.ref C) (some d) (upd H1 d (.xd [(f, v)]))
theorem pa_mono {X : Cx} {es : List Expr} {ta : TA} (ha : PA X es ta) : PA X es fun σ H R => ∃ Q1 : List V → Hp → Prop, ta σ H Q1 ∧ ∀ vs H1, Q1 vs H1 → R vs H1 := by
  refine ⟨fun pos pins s σ H Q I h => ?_⟩
  obtain ⟨Q1, h, hi⟩ := h
  exact thn (ha.run pos pins s σ H Q1 I h) fun us s1 ⟨vs, H1, J, r, q⟩ => ⟨vs, H1, J, r, hi vs H1 q⟩
theorem pmk_E {X : Cx} {x f : Str} {C : Addr} {e : Expr} {ta : TA} {p pos : Pos} {k : Nat} (G : OKx X.prog X.w X.K X.mg X.base x f C) (hr : Room (k + 2) X.A) (ha : PA X [e] ta) (hg : Gl X x := by rfl) (hdb : (x == ("__debug__" : Str)) = false := by decide)
    (he : starEach [e] X.env = (false, eval e X.env) :: starEach [] X.env := by rfl) (hpl : (backTo pos (starEach [] X.env)).any (·.1) = false := by rfl) :
    PMk X (.Call (.Name x p) [e] [] pos) (tMkE C f ta) := by
  obtain ⟨hm, ox, noF, fI, fd, iC, tI, F, hb⟩ := G
  intro pins s σ H Q I h
  refine pmk_oex (k := 1) (dvs := []) ox iC tI F (hr.mono (by omega)) hb .nil pass0 hg hm (pa_mono ha) hdb he hpl pins s σ H Q I ⟨_, h, fun vs H1 hq => ?_⟩
  obtain ⟨v, rfl, q⟩ := hq
  refine ⟨by show 1 ≤ 1000; omega, fun a na => ⟨.ref a, v, rfl, a, rfl, upd_same, fun dx nd ne => ⟨rfl, dx, [(f, v)], upd_same, ?_, ?_, ?_⟩⟩⟩
  · rw [upd_ne ne, upd_same]
  · rw [upd_ne ne] at nd; exact nd
  · have n2 : H1 dx = none := by rw [upd_ne ne] at nd; exact nd
    have e1 : upd (del (upd (upd (upd H1 a (exo a C none)) dx (exd dx [(f, v)])) a (exo a C (some dx))) a) dx (.xd [(f, v)]) = upd H1 dx (.xd [(f, v)]) := by
      funext b
      by_cases hb : b = dx
      · rw [hb, upd_same, upd_same]
      · rw [upd_ne hb, upd_ne hb]
        by_cases ha : b = a
        · rw [ha, del_same, na]
        · rw [del_ne ha, upd_ne ha, upd_ne hb, upd_ne ha]
    rw [e1]
    exact q dx n2
def tRaiseP (t : L2.St → Hp → XK → Prop) (W : WX) : TS := fun _ σ H => t σ H fun cls d H' => W cls d σ H'
theorem ps_raiseP {X : Cx} {W : WX} {e : Expr} {t : L2.St → Hp → XK → Prop} {pos : Pos} (hc : X.calm = true) (tk : Takes X W) (he : PMk X e t) : PS X (.Raise (some e) none pos) (tRaiseP t W) := ps_raise hc tk he
/-- the class of a caught error, for isinstance -/
structure ExcD (K : PySem.W.Frag) (D : Addr) : Prop where
  cl : (PySem.W.clsIn K D).isSome = true
  hg : PySem.W.findIn K (.ref D) "__getattribute__" = some (some (.builtin "BaseException.__getattribute__"))
  hk : PySem.W.findIn K (.ref D) "__getattr__" = some none
  hs : PySem.W.subIn K (.ref D) (.type "BaseException") = some true
  hd : PySem.W.hasDictIn K D = true
  ha : PySem.W.findIn K (.ref D) "__class__" = some (some (.builtin "object.__class__"))
  hn : PySem.W.specialIn K (.builtin "object.__class__") "__get__" = some (some (.builtin "getset_descriptor.__get__"))
  ht : PySem.W.takesIn K (.builtin "object.__class__") = some true
  hm : PySem.W.mroIn K D (.type "object") = some true
section
variable {σ : L2.St} {H : Hp} {D : Ends} {t : L2.St → Hp → XK → Prop} {W : WX} {Q : XK} {C : Addr} {f : Str} {ta : TA} {v : V} {P : V → Prop}
theorem i_raise (q : t σ H fun cls d H' => W cls d σ H') : tRaiseP t W D σ H := q
theorem i_mkE (q : ta σ H fun vs H1 => ∃ v, vs = [v] ∧ ∀ d, H1 d = none → Q (.ref C) (some d) (upd H1 d (.xd [(f, v)]))) : tMkE C f ta σ H Q := q
theorem i_ex1 (q : P v) : ∃ u, [v] = [u] ∧ P u := ⟨v, rfl, q⟩
end
/-- the wish for an error of the class at C whose dict, new, holds f = v -/
def Rz (E : XK) (H : Hp) (C : Addr) (f : Str) (v : V) : Prop := ∀ d H', H d = none → Same H H' → H' d = some (.xd [(f, v)]) → E (.ref C) (some d) H'
theorem Rz.mono {E : XK} {H H1 : Hp} {C : Addr} {f : Str} {v : V} (h : Rz E H C f v) (s : Same H H1) : Rz E H1 C f v := fun d H' n s' e => h d H' (s.free n) (s.trans s') e
theorem Rz.at {E : XK} {H : Hp} {C : Addr} {f : Str} {v : V} (h : Rz E H C f v) {d : Addr} (n : H d = none) : E (.ref C) (some d) (upd H d (.xd [(f, v)])) :=
  h d _ n (fun b o e => by rw [upd_ne (ne_of_none e n)]; exact e) upd_same
section
variable {X : Cx} (K : PySem.W.Frag) {e o : Expr} {es : List Expr} {te to : TE} {ta : TA} {tg : Expr} {p pos apos cpos tpos : Pos} {elts : List Expr} {kk : Nat}
theorem opAdd (h : X.K = K := by rfl) : OpR X (binaryOp .Add) (addP K) := h ▸ op_addP
theorem opEq (hu : X.A.units + 64 < cLine) (h : X.K = K := by rfl) : OpR X (compareOp .Eq) (eqP K) := h ▸ op_eqP hu
theorem opNe (hu : X.A.units + 64 < cLine) (h : X.K = K := by rfl) : OpR X (compareOp .NotEq) (neP K) := h ▸ op_neP hu
theorem opIn (h : X.K = K := by rfl) : OpR X (compareOp .In) (inP K) := h ▸ op_inP
theorem opNotIn (h : X.K = K := by rfl) : OpR X (compareOp .NotIn) (notInP K) := h ▸ op_notInP
theorem ixK (h : X.K = K := by rfl) : IxR X (ixP K) := h ▸ ix_P
theorem slK (h : X.K = K := by rfl) : SlR X (slP K) := h ▸ sl_P
theorem piAny (he : PE X e te) (h : X.K = K := by rfl) : PI X tg e (iAny K te) := h ▸ pi_any he
theorem cLen (h : X.K = K := by rfl) : CallR X (.builtin "len") (rLenP K) := h ▸ call_lenP
theorem cSum (hc : X.calm = true) (h : X.K = K := by rfl) : CallR X (.builtin "sum") (rSum K) := h ▸ cr_sum hc
theorem cTup (h : X.K = K := by rfl) : CallR X (.type "tuple") (rTupP K) := h ▸ call_tupP
theorem cIsi (h : X.K = K := by rfl) : CallR X (.builtin "isinstance") (rIsi K) := h ▸ call_isi
theorem peJoin (ho : PE X o to) (he : PE X e te) (h : X.K = K := by rfl) (hs : starEach [e] X.env = [(false, eval e X.env)] := by rfl) (hbase : attributeBase o "join" X.env (eval o X.env) = eval o X.env := by rfl) (hline : (apos.endLine == pos.line) = true := by rfl) :
    PE X (.Call (.Attribute o "join" apos) [e] [] pos) (tM1 (rJoinP K) to te) := h ▸ pe_joinP ho he hs hbase hline
theorem pgTup {t : TGs} {n : Nat} (hc : X.calm = true) (ht : PGs X es t) (h : X.K = K := by rfl) (hn : (assignEach es X.env).length = n := by rfl) (hst : (assignEach es X.env).findIdx? (·.1) = none := by rfl) :
    PG X (.Tuple es kk pos) (gTup K n t) := h ▸ pg_tup hc ht hn hst
/-- xs.append(e) -/
def tApp (K : PySem.W.Frag) (to : TE) (t : TA) : TE := tBM K "list" rAppend to t
theorem peApp (ho : PE X o to) (ha : PA X (e :: es) ta) (h : X.K = K := by rfl) (hbase : attributeBase o "append" X.env (eval o X.env) = eval o X.env := by rfl)
    (hfew : ((backTo cpos (starEach (e :: es) X.env)).all (fun x => !x.1) && (backToKw cpos (keywordEach [] X.env)).all (fun x => x.1.isSome)
      && decide ((e :: es).length + ([] : List Keyword).length + (if ([] : List Keyword).isEmpty then 0 else 1) < 30)) = true := by rfl)
    (hline : (apos.endLine == cpos.line) = true := by rfl) (hs : starEach (e :: es) X.env = (false, eval e X.env) :: starEach es X.env := by rfl) (hplain : (backTo cpos (starEach es X.env)).any (·.1) = false := by rfl) :
    PE X (.Call (.Attribute o "append" apos) (e :: es) [] cpos) (tApp K to ta) := h ▸ pe_bm PySem.F.plainAttrs_list PySem.F.slot_list_append PySem.F.type_list_append mt_append ho ha hbase hfew hline hs hplain
end
section
variable {K : PySem.W.Frag} {σ : L2.St} {H : Hp} {Q : VK} {te : TE} {ta : TA} {l : Addr} {xs : List V} {v : V}
theorem i_app (q : te σ H fun x H1 => tyV K "list" x H1 ∧ ta σ H1 fun xs H2 => rAppend x xs H2 Q) : tApp K te ta σ H Q := q
theorem i_appAt (h : H l = some (.lst xs)) {P : Prop} (q : P) : tyV K "list" (.ref l) H ∧ P := ⟨.inl ⟨rfl, _, .inl (.inl h)⟩, q⟩
theorem i_appEnd (h : H l = some (.lst xs)) (hz : xs.length < 100000) (q : Q .non (upd H l (.lst (xs ++ [v])))) : rAppend (.ref l) [v] H Q := ⟨l, xs, v, rfl, rfl, h, Nat.lt_trans hz (by decide), q⟩
end
section
variable {σ : L2.St} {H : Hp} {D : Ends} {t u : TS} {to ti : TE} {v : V} {Qs : L2.St → Hp → Prop} {Qh : Hp → Prop} {p : Addr} {xs ys : List V} {z : Int}
theorem i_gsub {ts : TSet} (q : to σ H fun o H1 => ti σ H1 fun i H2 => ts o i v H2 fun H3 => Qs σ H3) : gSub to ti ts v σ H Qs := q
theorem i_setL (j : Nat) (h : H p = some (.lst xs)) (hj : ixN xs.length z = some j) (e : xs.set j v = ys) (q : Qh (upd H p (.lst ys))) : rSetL (.ref p) (.int z) v H Qh := ⟨p, xs, z, j, rfl, rfl, h, hj, by rw [e]; exact q⟩
theorem i_cut (Mid : L2.St → Hp → Prop) (h1 : t { D with nx := Mid } σ H) (h2 : ∀ σ' H', Mid σ' H' → u D σ' H') : Evl.tCut t u D σ H := ⟨Mid, h1, h2⟩
end
theorem joinL_nil : ∀ ls : List (List Nat), TL.joinL [] ls = ls.flatten
  | [] => rfl
  | [p] => by simp [TL.joinL]
  | p :: q :: r => by
    show p ++ ([] ++ TL.joinL [] (q :: r)) = _
    rw [joinL_nil (q :: r)]
    rfl
theorem join_nil (ls : List (List Nat)) : Txt.join ⟨([] : List Nat).toArray⟩ (ls.map fun l => (⟨l.toArray⟩ : Str)) = ⟨ls.flatten.toArray⟩ := by
  refine TL.ext_tl ?_
  rw [TL.join_eq, TL.tl_join, List.map_map]
  show TL.joinL ([] : List Nat).toArray.toList (ls.map fun l => l.toArray.toList) = ls.flatten.toArray.toList
  simp [joinL_nil]
theorem i_join0 {K : PySem.W.Frag} {H : Hp} {Q : VK} {p : Addr} {ls : List (List Nat)} (hs : SqL K H p (ls.map S)) (hz : (ls.map List.length).sum ≤ 100000) (q : Q (S ls.flatten) H) : rJoinP K (S []) [.ref p] H Q := by
  refine ⟨⟨([] : List Nat).toArray⟩, p, ls.map fun l => (⟨l.toArray⟩ : Str), rfl, rfl, .inl ?_, ?_, ?_⟩
  · rw [List.map_map]; exact hs
  · rw [List.map_map]
    have e : (ls.map ((·.length) ∘ fun l => (⟨l.toArray⟩ : Str))) = ls.map List.length := List.map_congr_left fun l _ => str_len l
    rw [e]
    show (ls.map List.length).sum + _ * ([] : List Nat).toArray.size ≤ _
    simp
    omega
  · rw [join_nil]; exact q
theorem flat_one (cs : List Nat) : (cs.map fun c => [c]).flatten = cs := by
  induction cs with
  | nil => rfl
  | cons a r ih => rw [List.map_cons, List.flatten_cons, ih]; rfl
theorem len_one (cs : List Nat) : ((cs.map fun c => [c]).map List.length).sum = cs.length := by
  induction cs with
  | nil => rfl
  | cons a r ih => rw [List.map_cons, List.map_cons, List.sum_cons, ih, List.length_cons, List.length_cons, List.length_nil]; omega
/-- .. of signs -/
theorem i_join1 {K : PySem.W.Frag} {H : Hp} {Q : VK} {p : Addr} {cs : List Nat} (hs : SqL K H p (cs.map fun c => S [c])) (hz : cs.length ≤ 100000) (q : Q (S cs) H) : rJoinP K (S []) [.ref p] H Q := by
  refine i_join0 (ls := cs.map fun c => [c]) (by rw [List.map_map]; exact hs) (by rw [len_one]; exact hz) ?_
  rw [flat_one]
  exact q
theorem i_yes {σ : L2.St} {H : Hp} {QB : Bool → Hp → Prop} (q : QB true H) : tYes σ H QB := q
section
variable {K : PySem.W.Frag} {σ : L2.St} {H : Hp} {Q : VK} {a dd D C : Addr} {fs : List (Str × V)} {c x y v : V} {cv : Value} {b r : Bool} {i : Nat} {f : Str} {d1 d2 : PyData}
theorem i_ne_data (h1 : Dp K H x d1) (h2 : Dp K H y d2) (s1 : SeqAt.shaped d1 = true) (s2 : SeqAt.shaped d2 = true) (e : PyData.eqv d1 d2 = r) (q : Q (.bl (!r)) H) : neP K x y H Q := .inr ⟨d1, d2, h1, h2, s1, s2, by rw [e]; exact q⟩
end
theorem kit_ref {K : PySem.W.Frag} {C D : Addr} {b : Bool} (hi : PySem.W.isClsIn K D = true) (ht : PySem.W.typeIn K (.ref D) = some (.type "type")) (hs : PySem.W.subIn K (.ref D) (.ref D) = some true) (e : PySem.W.subIn K (.ref C) (.ref D) = some b) : PySem.W.kitOne K (.ref C) (.ref D) = some b := by
  unfold PySem.W.kitOne
  by_cases h : C = D
  · subst h
    rw [hs] at e
    rw [if_pos (beq_self_eq_true _)]
    exact e
  · rw [if_neg (fun z => h (by simpa using z))]
    show (if ((PySem.W.clsIn K D).isSome && PySem.W.typeIn K (.ref D) == some (.type "type")) = true then PySem.W.subIn K (.ref C) (.ref D) else none) = _
    rw [show (PySem.W.clsIn K D).isSome = true from hi, ht, if_pos (by simp)]
    exact e
theorem passN {X : Cx} : Passes (L2.CX X.prog X.w) X E0 := fun _ _ _ _ _ _ _ ⟨_, _, _, _, _, _, _, _, _, _, _, _, h⟩ => h.elim
theorem i_is_bl {H : Hp} {Q : VK} {b : Bool} (q : Q (.bl false) H) : isP (.bl b) .non H Q := ⟨rfl, q⟩
theorem i_isn_bl {H : Hp} {Q : VK} {b : Bool} (q : Q (.bl true) H) : isNotP (.bl b) .non H Q := ⟨rfl, q⟩
theorem i_int_bl {H : Hp} {Q : VK} {b : Bool} (q : Q (.int (if b then 1 else 0)) H) : rIntP [.bl b] H Q := .inr ⟨b, rfl, q⟩
section
variable {K : PySem.W.Frag} {σ : L2.St} {H : Hp} {Q : VK} {D : Ends} {te : TE} {ta : TA} {i j : Nat} {u v w x : V} {a : Addr} {Qs : L2.St → Hp → Prop}
theorem i_par (q : ta σ H fun vs H1 => ∃ v w, vs = [v, w] ∧ D.nx ((σ.set i (some v)).set j (some w)) H1) : tPar i j ta D σ H := q
theorem i_par2 (q : D.nx ((σ.set i (some v)).set j (some w)) H) : ∃ v' w', [v, w] = [v', w'] ∧ D.nx ((σ.set i (some v')).set j (some w')) H := ⟨v, w, rfl, q⟩
theorem i_aug {ti : TIp} (h : σ[i]? = some (some x)) (q : te σ H fun y H1 => ti x y H1 fun z H2 => D.nx (σ.set i (some z)) H2) : tAug i te ti D σ H := ⟨x, h, q⟩
theorem i_ipI {f : Int → Int → Int} {a b : Int} (q : Q (.int (f a b)) H) : ipI f (.int a) (.int b) H Q := ⟨a, b, rfl, rfl, q⟩
theorem i_gtup2 (h : SqT K H a [u, v]) (q : Qs ((σ.set i (some u)).set j (some v)) H) : gTup K 2 (gCons (gName i) (gCons (gName j) gNil)) (.ref a) σ H Qs := ⟨a, _, rfl, h, rfl, u, _, rfl, v, _, rfl, rfl, q⟩
theorem i_while {c : TT} {tb : TS} (W : Nat → L2.St → Hp → Prop) (m : Nat) (h0 : W m σ H)
    (h : ∀ m σ H, W m σ H → c σ H fun b H1 => if b = true then ∃ N : L2.St → Hp → Prop, (∀ σ' H', N σ' H' → ∃ m', m' < m ∧ W m' σ' H') ∧ tb { D with nx := N, ct := N, bk := D.nx } σ H1 else D.nx σ H1) : tWhile c tb D σ H := ⟨W, ⟨m, h0⟩, h⟩
theorem i_turn {tb : TS} {W : Nat → L2.St → Hp → Prop} {m : Nat} (q : tb { D with nx := fun σ' H' => ∃ m', m' < m ∧ W m' σ' H', ct := fun σ' H' => ∃ m', m' < m ∧ W m' σ' H', bk := D.nx } σ H) :
    ∃ N : L2.St → Hp → Prop, (∀ σ' H', N σ' H' → ∃ m', m' < m ∧ W m' σ' H') ∧ tb { D with nx := N, ct := N, bk := D.nx } σ H := ⟨_, fun _ _ h => h, q⟩
theorem i_lstRg1 (q : te σ H fun x H1 => ∃ n, x = .int n ∧ RgOk 0 n ∧ ∀ q, H1 q = none → Q (.ref q) (upd H1 q (.lst (rgV 0 n)))) : tLstRg (tRg1 te) σ H Q := q
end
end Fg
namespace Fg
open PySem PySem.Spec PyProof.Rows L2
theorem same_upd {H : Hp} {p : Addr} {o : HO} (h : H p = none) : Same H (upd H p o) := fun b x e => by
  rw [upd_ne (ne_of_none e h)]
  exact e
theorem Same.upd {H H' : Hp} {p : Addr} {o : HO} (e : Same H H') (h : H p = none) : Same H (upd H' p o) := fun b x eb => by
  rw [upd_ne (ne_of_none eb h)]
  exact e b x eb
theorem Same.tup {K : PySem.W.Frag} {H H' : Hp} {a : Addr} {xs : List V} (e : Same H H') (h : SqT K H a xs) : SqT K H' a xs := by
  rcases h with (h | ⟨o, h⟩) | h
  · exact .inl (.inl (e _ _ h))
  · exact .inl (.inr ⟨o, e _ _ h⟩)
  · exact .inr h
section
variable {K : PySem.W.Frag} {σ : L2.St} {H : Hp} {Q : VK} {D : Ends} {te tl : TE} {tt : TT} {ta : TA} {tb : TS} {j : Nat} {g : TG} {a : Addr} {xs : List V} {z : List Nat} {vs : List Nat}
/-- for j in range(n) -/
theorem f_rng1 (n : Nat) (ha : ∀ R : List V → Hp → Prop, R [.int (n : Int)] H → ta σ H R) (hn : n ≤ 100000000) (Pv : Nat → L2.St → Hp → Prop) (h0 : Pv 0 σ H)
    (hs : ∀ i σ' H', i < n → Pv i σ' H' → g (.int (i : Int)) σ' H' fun σ2 H2 => tb { D with nx := Pv (i + 1), ct := Pv (i + 1), bk := D.nx } σ2 H2) (hd : ∀ σ' H', Pv n σ' H' → D.nx σ' H') : tFor (iRng1 ta) g tb D σ H := by
  refine ha _ ⟨(n : Int), rfl, by omega, by omega, ?_⟩
  rw [Int.toNat_natCast]
  refine for_range Pv h0 (fun i σ' H' hi p => ?_) hd
  rw [Int.zero_add]
  exact hs i σ' H' hi p
def Lw (H1 : Hp) (Dl : Addr) (l : Nat → List V) (i : Nat) (H' : Hp) : Prop := H1 Dl = none ∧ Same H1 H' ∧ H' Dl = some (.lst (l i))
/-- the kept ones among the first n -/
def kept (f : Nat → Bool) (v : Nat → V) (n : Nat) : List V := ((List.range n).filter f).map v
theorem kept_yes {f : Nat → Bool} {v : Nat → V} {n : Nat} (h : f n = true) : kept f v (n + 1) = kept f v n ++ [v n] := by
  unfold kept
  rw [List.range_succ, List.filter_append, List.map_append, List.filter_cons_of_pos h] <;> rfl
theorem kept_no {f : Nat → Bool} {v : Nat → V} {n : Nat} (h : f n = false) : kept f v (n + 1) = kept f v n := by
  unfold kept
  rw [List.range_succ, List.filter_append, List.map_append, List.filter_cons_of_neg (by rw [h]; decide)]
  simp
theorem kept_len (f : Nat → Bool) (v : Nat → V) (n : Nat) : (kept f v n).length ≤ n := by
  unfold kept
  rw [List.length_map]
  exact Nat.le_trans (List.length_filter_le _ _) (by rw [List.length_range]; exact Nat.le_refl _)
theorem kept_all (v : Nat → V) (n : Nat) : kept (fun _ => true) v n = (List.range n).map v := by
  unfold kept
  rw [List.filter_eq_self.mpr (fun _ _ => rfl)]
theorem lw_turn {H1 H' : Hp} {Dl : Addr} {f : Nat → Bool} {v : Nat → V} {i : Nat} {σ2 : L2.St} (p : Lw H1 Dl (kept f v) i H') (hi : i < 100000)
    (ht : ∀ H2, Same H1 H2 → ∀ QB : Bool → Hp → Prop, (∀ H3, Same H2 H3 → QB (f i) H3) → tt σ2 H2 QB) (he : ∀ H2, Same H1 H2 → f i = true → ∀ QV : VK, (∀ H3, Same H2 H3 → QV (v i) H3) → te σ2 H2 QV) :
    tt σ2 H' fun b H3 => if b = true then te σ2 H3 fun y H4 => ∃ acc, H4 Dl = some (.lst acc) ∧ acc.length < sizeLine ∧ Lw H1 Dl (kept f v) (i + 1) (upd H4 Dl (.lst (acc ++ [y]))) else Lw H1 Dl (kept f v) (i + 1) H3 := by
  obtain ⟨n1, s1, d1⟩ := p
  refine ht H' s1 _ fun H3 s3 => ?_
  cases hf : f i with
  | true =>
    rw [if_pos rfl]
    refine he H3 (s1.trans s3) hf _ fun H4 s4 => ⟨kept f v i, s4 _ _ (s3 _ _ d1), ?_, n1, ?_, ?_⟩
    · exact Nat.lt_of_le_of_lt (kept_len f v i) (Nat.lt_trans hi (by decide))
    · exact Same.upd ((s1.trans s3).trans s4) n1
    · rw [kept_yes hf]; exact upd_same
  | false =>
    rw [if_neg (by decide)]
    exact ⟨n1, s1.trans s3, by rw [kept_no hf]; exact s3 _ _ d1⟩
/-- [te for j in range(n) if tt] -/
theorem c_rng1 (n : Nat) (ha : ∀ R : List V → Hp → Prop, R [.int (n : Int)] H → ta σ H R) (hn : n ≤ 100000) (f : Nat → Bool) (v : Nat → V) (hw : ∀ x, wipe ((wipe σ vs).set j (some x)) vs = wipe σ vs)
    (ht : ∀ i H2, i < n → Same H H2 → ∀ QB : Bool → Hp → Prop, (∀ H3, Same H2 H3 → QB (f i) H3) → tt ((wipe σ vs).set j (some (.int (i : Int)))) H2 QB)
    (he : ∀ i H2, i < n → Same H H2 → f i = true → ∀ QV : VK, (∀ H3, Same H2 H3 → QV (v i) H3) → te ((wipe σ vs).set j (some (.int (i : Int)))) H2 QV)
    (q : ∀ Dl H2, H Dl = none → Same H H2 → H2 Dl = some (.lst (kept f v n)) → Q (.ref Dl) H2) : tLc (iRng1 ta) (gName j) tt te vs σ H Q := by
  refine ha _ ⟨(n : Int), rfl, by omega, by omega, fun Dl nD => ?_⟩
  rw [Int.toNat_natCast]
  refine lc_range (Lw H Dl (kept f v)) ⟨nD, same_upd nD, upd_same⟩ (fun i H' hi p => ?_) (fun H' p => q Dl H' p.1 p.2.1 p.2.2)
  rw [Int.zero_add]
  exact ⟨hw _, lw_turn p (by omega) (fun H2 s2 => ht i H2 hi s2) (fun H2 s2 => he i H2 hi s2)⟩
/-- [te for j in a list if tt] -/
theorem c_lst (ha : ∀ R : VK, R (.ref a) H → tl σ H R) (hx : SqL K H a xs) (hn : xs.length ≤ 100000) (f : Nat → Bool) (v : Nat → V) (hw : ∀ x, wipe ((wipe σ vs).set j (some x)) vs = wipe σ vs)
    (ht : ∀ i x H2, xs[i]? = some x → Same H H2 → ∀ QB : Bool → Hp → Prop, (∀ H3, Same H2 H3 → QB (f i) H3) → tt ((wipe σ vs).set j (some x)) H2 QB)
    (he : ∀ i x H2, xs[i]? = some x → Same H H2 → f i = true → ∀ QV : VK, (∀ H3, Same H2 H3 → QV (v i) H3) → te ((wipe σ vs).set j (some x)) H2 QV)
    (q : ∀ Dl H2, H Dl = none → Same H H2 → H2 Dl = some (.lst (kept f v xs.length)) → Q (.ref Dl) H2) : tLc (iAny K tl) (gName j) tt te vs σ H Q := by
  refine ha _ (.inl ⟨a, xs, rfl, hx, fun Dl nD => ?_⟩)
  refine lc_list (Lw H Dl (kept f v)) ⟨nD, same_upd nD, upd_same⟩ (fun i H' hi p => p.2.1.seq hx) (fun i x H' hi p => ?_) (fun H' p => q Dl H' p.1 p.2.1 p.2.2)
  have hlt := (List.getElem?_eq_some_iff.mp hi).1
  exact ⟨hw _, lw_turn p (by omega) (fun H2 s2 => ht i x H2 hi s2) (fun H2 s2 => he i x H2 hi s2)⟩
end
def LoopG (g : TG) (tb : TS) (D : Ends) (σ : L2.St) : It → Hp → Prop := fun J H1 => tFor (fun _ _ R => R J H1) g tb D σ H1
section
variable {K : PySem.W.Frag} {σ : L2.St} {H : Hp} {D : Ends} {te : TE} {tb : TS} {g : TG} {a : Addr} {xs : List V}
theorem i_for (q : te σ H fun x H1 => (∃ a xs, x = .ref a ∧ SqL K H1 a xs ∧ LoopG g tb D σ (Itl K a) H1) ∨ (∃ a xs, x = .ref a ∧ SqT K H1 a xs ∧ LoopG g tb D σ (Itt K a) H1) ∨ (∃ z, x = .str z ∧ LoopG g tb D σ (Its z) H1)) : tFor (iAny K te) g tb D σ H := q
theorem i_forL {B : Prop} (hx : SqL K H a xs) (Pv : Nat → L2.St → Hp → Prop) (h0 : Pv 0 σ H) (hl : ∀ i σ' H', i ≤ xs.length → Pv i σ' H' → SqL K H' a xs)
    (hs : ∀ i x σ' H', xs[i]? = some x → Pv i σ' H' → g x σ' H' fun σ2 H2 => tb { D with nx := Pv (i + 1), ct := Pv (i + 1), bk := D.nx } σ2 H2) (hd : ∀ σ' H', Pv xs.length σ' H' → D.nx σ' H') :
    (∃ a' xs', V.ref a = .ref a' ∧ SqL K H a' xs' ∧ LoopG g tb D σ (Itl K a') H) ∨ B := .inl ⟨a, xs, rfl, hx, for_list Pv h0 hl hs hd⟩
end
section
variable {K : PySem.W.Frag} {σ : L2.St} {H : Hp} {Q : VK} {D : Ends} {ta : TA} {tb : TS} {g : TG} {a b : Addr} {xs ys : List V}
theorem i_forR (q : ta σ H fun vs H1 => ∃ j : Int, vs = [.int j] ∧ -(2 ^ 62) ≤ j ∧ j < 2 ^ 62 ∧ LoopG g tb D σ (Itr 0 j.toNat) H1) : tFor (iRng1 ta) g tb D σ H := q
theorem i_rngD {n : Int} (h0 : 0 ≤ n) (h : n ≤ 100000000) (Pv : Nat → L2.St → Hp → Prop) (hp : Pv 0 σ H)
    (hs : ∀ (i : Nat) σ' H', (i : Int) < n → Pv i σ' H' → g (.int (i : Int)) σ' H' fun σ2 H2 => tb { D with nx := Pv (i + 1), ct := Pv (i + 1), bk := D.nx } σ2 H2) (hd : ∀ σ' H', Pv n.toNat σ' H' → D.nx σ' H') :
    ∃ j : Int, [V.int n] = [.int j] ∧ -(2 ^ 62) ≤ j ∧ j < 2 ^ 62 ∧ LoopG g tb D σ (Itr 0 j.toNat) H := by
  refine ⟨n, rfl, by omega, by omega, ?_⟩
  refine for_range Pv hp (fun i σ' H' hi p => ?_) hd
  rw [Int.zero_add]
  exact hs i σ' H' (by omega) p
theorem i_catL (h1 : H a = some (.lst xs)) (h2 : H b = some (.lst ys)) (hz : xs.length + ys.length ≤ 100000) (q : ∀ p, H p = none → Q (.ref p) (upd H p (.lst (xs ++ ys)))) : addP K (.ref a) (.ref b) H Q :=
  .inr (.inr (.inl ⟨a, b, xs, ys, rfl, rfl, h1, h2, Nat.le_trans hz (by decide), q⟩))
theorem i_slL {lo hi : Option Int} (h : SqL K H a xs) (q : ∀ p, H p = none → Q (.ref p) (upd H p (.lst (cutV xs lo hi)))) : slP K (.ref a) lo hi H Q := .inl ⟨a, xs, rfl, h, q⟩
theorem cutV_to {xs : List V} (k : Nat) : cutV xs none (some (k : Int)) = xs.take k := by
  unfold cutV
  rw [HT.sIx_none, List.drop_zero, Nat.sub_zero, HT.sIx_nat]
  by_cases h : k ≤ xs.length
  · rw [Nat.min_eq_left h]
  · rw [Nat.min_eq_right (by omega), List.take_length, List.take_of_length_le (by omega)]
end
end Fg
namespace Fg
open PySem PySem.Spec PyProof.Rows L2
/-- J in the block of a comprehension -/
abbrev InBlk (X : Cx) (scope : Scope) (J : Cx → Prop) : Prop := ∀ (s : Shared) (H : Hp) (C : Addr) (cl : List (Str × Addr)) (fp : List Addr), J (X.blk s H scope (compEnvC scope cl C X.env) fp)
section
variable {X : Cx} {pins : List (Addr × Obj)} {σ : L2.St} {H H' : Hp} {s : Shared} {a : Addr} {y v : V} {u r : Value} {A : Around} {E : Value → Shared → Prop}
/-- what a comprehension stores: keys of either kind -/
theorem dset_any {Q : Unit → Shared → Prop} (hu : X.A.units + 1 < cLine) (I : Inv X pins σ H s) (g : DPut H a y v H') (ry : RelV y u) (rv : RelV v r) (h : ∀ s', Inv X pins σ H' s' → Q () s') : wpAny (model X.prog X.w) X.A (dictSet a u r) Q E s := by
  obtain ⟨kvs, k, e, rfl, l, rfl⟩ | ⟨kvs, k, b, e, rfl, eb, l, rfl⟩ := g
  · exact d_dictSet I e l ry rv h
  have ub : u = Value.ref b := ry; subst ub
  obtain ⟨_, hd, xs, rel, dd⟩ := dt_of I.hok e
  have room : xs.length ≤ sizeLine := by have := Paired.length rel; omega
  have more : (putK kvs k v).length ≤ sizeLine := Nat.le_trans (length_putK kvs k v) (by omega)
  refine wpAny_dictSet_heap (hsz := room) (show X.A.units < cLine from Nat.lt_of_succ_lt hu) (key_of I.hok eb) dd fun h1 ⟨o, es, ep, ho, rest⟩ sb => h _ ?_
  have stay : ∀ c ys, H c = some (.tup ys) → upd H a (.dT (putK kvs k v)) c = some (.tup ys) := fun c ys ec => (upd_ne (fun z => by rw [z, e] at ec; cases ec)).trans ec
  exact d_write I (by rw [e]; trivial) sb ⟨o, ho⟩ ⟨more, hd, _, (rel.put k eb rv).keeps stay, o, es, ep, ho, rest.1, rest.2.1, rest.2.2.1, rest.2.2.2.2⟩
end
/-- a block of ours: entered over H3, s3; its iterator's objects at fp -/
structure Bk (X : Cx) (pins : List (Addr × Obj)) (σ : L2.St) (H3 : Hp) (s3 : Shared) (ce : Env) (fp : List Addr) : Prop where
  inv : Inv X pins σ H3 s3
  fpo : ∀ b ∈ fp, FpOk X pins H3 b ∧ b < s3.heap.objs.size
  loc : ce.locals = s3.heap.objs.size
section
variable {X : Cx} {pins pn : List (Addr × Obj)} {σ σ' : L2.St} {H3 H' : Hp} {s3 s' : Shared} {scope : Scope} {ce : Env} {fp : List Addr}
theorem Bk.still (I : Inv (X.blk s3 H3 scope ce fp) pn σ' H' s') (n : ∀ b ∈ fp, H' b = none) (hp : pn = []) : ∀ b ∈ fp, FpOk (X.blk s3 H3 scope ce fp) pn H' b := by
  subst hp
  intro b hb
  have f := I.ok.exf b hb
  exact ⟨n b hb, f.1, I.ok.exfs b hb, .inl hb, f.2, fun p z => by cases z⟩
/-- the block is left -/
theorem Bk.out (k : Bk X pins σ H3 s3 ce fp) (I : Inv (X.blk s3 H3 scope ce fp) pn σ' H' s') : Inv X pins σ H' s' ∧ (∃ m, s'.heap.Ns ce.locals m) ∧ FpOk X pins H' ce.locals := by
  refine ⟨k.inv.call' (ch := fp) I.os I.base I.hok I.bare fun b hb => ?_, ?_, ?_⟩
  · obtain ⟨⟨_, f1, _, f3, f4, f5⟩, _⟩ := k.fpo b hb
    exact ⟨f3, f1, f4, f5⟩
  · obtain ⟨m, hn, _⟩ := I.loc
    exact ⟨m, hn⟩
  · exact k.inv.fpOk (Nat.le_of_eq k.loc.symm) I.free
/-- what holds ahead of turn i -/
def Bk.At (X : Cx) (σ : L2.St) (H3 : Hp) (s3 : Shared) (scope : Scope) (ce : Env) (fp : List Addr) (vs : List Nat) (tn : Nat → Heap → Prop) (Wi : Nat → Nat → Hp → Prop) (n : Nat) (s' : Shared) : Prop :=
  ∃ i H', Inv (X.blk s3 H3 scope ce fp) [] (wipe σ vs) H' s' ∧ tn i s'.heap ∧ (∀ b ∈ fp, H' b = none) ∧ Wi i n H'
theorem Bk.again {P : Program} {w : World} {K : PySem.W.Frag} {tg : Expr} {J : It} {it : Addr} {tn : Nat → Heap → Prop} {i : Nat} {h : Heap} {vs : List Nat} (T : Turn P w K tg J fp it tn) (t : tn i h) (I : Inv (X.blk s3 H3 scope ce fp) ([] ++ pinsAt fp h) σ' H' s')
    (hw : wipe σ' vs = wipe σ vs) : Inv (X.blk s3 H3 scope ce fp) [] (wipe σ vs) H' s' ∧ tn i s'.heap ∧ ∀ b ∈ fp, H' b = none := by
  have pin : ∀ b ∈ fp, ∀ o, h.get? b = some o → s'.heap.get? b = some o ∧ H' b = none := fun b hb o e => by
    have m : (b, o) ∈ [] ++ ([] ++ pinsAt fp h) := by simpa using mem_pinsAt hb e
    exact ⟨(I.pin (b, o) m).1, (I.pin (b, o) m).2.1⟩
  refine ⟨(I.unpinned (pins := [])).weak (by rw [← hw]; exact wipe_length _ _) (fun j v e => (wipe_some (vs := vs) (by rw [hw]; exact e)).1), T.keep _ _ _ t fun b hb o e => (pin b hb o e).1, fun b hb => ?_⟩
  obtain ⟨o, e, _⟩ := T.obj _ _ t b hb
  exact (pin b hb o e).2
end
/-- {k: v for target in iter if ..}: D the new dict, empty as o0 tells -/
def tDcA (o0 : HO) (wi : TI) (g : TG) (tt : TT) (tk tv : TE) (vs : List Nat) : TE := fun σ H Q => wi σ H fun J H1 => ∀ D, H1 D = none → ∃ Wi : Nat → Nat → Hp → Prop, (∃ m, Wi 0 m (upd H1 D o0)) ∧ ∀ i m H', Wi i m H' →
  (J.stop i H' ∧ Q (.ref D) H') ∨ (J.go i H' ∧ ∃ Nx : Hp → Prop, (∀ G, Nx G → ∃ m', m' < m ∧ Wi (i + 1) m' G) ∧ ∀ x G, J.yld i H' x G → g x (wipe σ vs) G fun σ2 H2 => wipe σ2 vs = wipe σ vs ∧ tt σ2 H2 fun b H4 =>
    if b = true then tk σ2 H4 fun y H5 => tv σ2 H5 fun z H6 => ∃ H7, DPut H6 D y z H7 ∧ Nx H7 else Nx H4)
/-- an empty dict of either kind -/
def Mty (o0 : HO) : Prop := ∀ {P : Program} {w : World} {H : Hp} (h : Heap), sysModules < h.objs.size → ObjOk P w H (h.push { cls := .type "dict", data := .dict #[] }) h.objs.size o0
theorem mtyT : Mty (.dT []) := fun h => dt_empty h
section
variable {X : Cx} {kx vx tg iter : Expr} {ifs : List Expr} {scope : Scope} {own : List (Str × Nat)} {wi : TI} {g : TG} {tt : TT} {tk tv : TE} {o0 : HO}
/-- what is to hold of the new dict behind it -/
def DcEnd (X : Cx) (pins : List (Addr × Obj)) (σ : L2.St) (Q : VK) (use : Option (Value → Sem Unit)) (Qf : Value → Shared → Prop) : Prop :=
  ∀ D C s' G, Inv X pins σ G s' → (∃ m, s'.heap.Ns C m) → FpOk X pins G C → Q (.ref D) G → compPost (model X.prog X.w) X.A X.xe use Qf (.ref D) C (.ok .next) s'
theorem dcA_core {pos pos' : PySem.Pos} {pins : List (Addr × Obj)} {s : Shared} {σ : L2.St} {H : Hp} {Q : VK} {use : Option (Value → Sem Unit)} {Qf : Value → Shared → Prop} (mt : Mty o0) (hu : X.A.units + 1 < cLine) (hc : X.calm = true) (hN : X.N.Nodup) (hi : PI X tg iter wi)
    (ok : BlkOk X.N X.env.scope scope own) (hg : InBlk X scope fun Y => PG Y tg g) (ht : InBlk X scope fun Y => PTs Y ifs tt) (hk : InBlk X scope fun Y => PE Y kx tk) (hv : InBlk X scope fun Y => PE Y vx tv) (hs : ∀ x, foldedSetIterable iter X.env x = pure x)
    (I : Inv X pins σ H s) (h : tDcA o0 wi g tt tk tv (own.map (·.2)) σ H Q) (fin : DcEnd X pins σ Q use Qf) : wpAny (model X.prog X.w) X.A (comprehension (.DictComp kx vx [⟨tg, iter, ifs, 0⟩] scope pos) scope X.env pos' newDict false (eval iter X.env) use) Qf X.xe s := by
  have clo := closure_ok (scope := scope) (env := X.env) fun y hy e => I.ok.has _ (ok.free y hy e)
  refine wpAny_comprehension_free (use := use) rfl hs clo ok.kind (fun y hy e => (ok.uniq y hy).trans (congrArg some e)) (thn (hi.run pins s σ H _ I h) fun _ s1 h1 => thn h1 fun _ s2 h2 => ?_)
  obtain ⟨it, fp, tn, J, H2, rfl, I2, T, t0, f2, q⟩ := h2
  refine wpAny_newObj_type (newEnv_comp ?_); have fresh := I2.hok.fresh (Nat.le_refl s2.heap.objs.size)
  obtain ⟨Wi, ⟨m0, w0⟩, turn⟩ := q _ fresh
  have small : ∀ b ∈ fp, b < s2.heap.objs.size := fun b hb => let ⟨_, e, _⟩ := T.obj _ _ t0 b hb; Heap.lt_size e
  generalize eD : s2.heap.objs.size = D at *
  have I3 : Inv X pins σ (upd H2 D o0) { s2 with heap := s2.heap.push { cls := .type "dict", data := .dict #[] } } :=
    I2.laid (t' := s2.toks) (fun _ _ e => Heap.get?_push_of_some _ e) (Nat.le_of_eq eD) (by rw [← eD]; exact mt s2.heap I2.big)
  have t3 : tn 0 (s2.heap.push { cls := .type "dict", data := .dict #[] }) := T.keep _ _ _ t0 fun _ _ _ e => Heap.get?_push_of_some _ e
  have z3 : (s2.heap.push { cls := .type "dict", data := .dict #[] }).objs.size = D + 1 := by rw [Heap.size_push, eD]
  generalize es : ({ s2 with heap := s2.heap.push { cls := .type "dict", data := .dict #[] } } : Shared) = s3 at I3
  have h3 : s3.heap = s2.heap.push { cls := .type "dict", data := .dict #[] } := by rw [← es]
  have f3 : ∀ b ∈ fp, FpOk X pins (upd H2 D o0) b ∧ b < s3.heap.objs.size := fun b hb => by
    have lt := small b hb
    exact ⟨⟨(upd_ne (Nat.ne_of_lt lt)).trans (f2 b hb).1, (f2 b hb).2⟩, by rw [h3, z3]; exact Nat.lt_succ_of_lt lt⟩
  rw [← h3] at t3
  generalize e3 : upd H2 D o0 = H3 at *
  have B0 := block_start I3 ok hN f3
  generalize ecl : cellsFrom (s3.heap.objs.size + 1) scope.names (cloFrom X.env.cells scope.names []) = cl at B0
  generalize ece : compEnvC scope cl s3.heap.objs.size X.env = ce at B0
  have bk : Bk X pins σ H3 s3 ce fp := ⟨I3, f3, by rw [← ece]; rfl⟩
  have pg : PG (X.blk s3 H3 scope ce fp) tg g := ece ▸ hg s3 H3 s3.heap.objs.size cl fp
  have pt : PTs (X.blk s3 H3 scope ce fp) ifs tt := ece ▸ ht s3 H3 s3.heap.objs.size cl fp
  have pk : PE (X.blk s3 H3 scope ce fp) kx tk := ece ▸ hk s3 H3 s3.heap.objs.size cl fp
  have pv : PE (X.blk s3 H3 scope ce fp) vx tv := ece ▸ hv s3 H3 s3.heap.objs.size cl fp
  generalize e4 : ({ s3 with heap := pushCells (s3.heap.push { cls := .type "dict", data := .dict #[] }) scope.names } : Shared) = s4 at B0
  have t4 : tn 0 s4.heap := T.keep _ _ _ t3 fun b _ o e => by rw [← e4]; exact pushCells_keeps _ _ _ _ (Heap.get?_push_of_some _ e)
  have whole : ∀ R : Result → Shared → Prop, (∀ s6 H5, Inv X pins σ H5 s6 → (∃ m, s6.heap.Ns ce.locals m) → FpOk X pins H5 ce.locals → Q (.ref D) H5 → R (.ok .next) s6) →
      codeAny (model X.prog X.w) X.A (.compLoop (.DictComp kx vx [⟨tg, iter, ifs, 0⟩] scope pos) 0 (.ref it) (.ref D) ce) R s4 := fun R hR => by
    refine compLoop_anyD (Bk.At X σ H3 s3 scope ce fp (own.map (·.2)) tn Wi) ?_ m0 ⟨0, H3, B0, t4, fun b hb => (f3 b hb).1.1, w0⟩
    rintro n s5 ⟨i, H5, I5, t5, n5, w5⟩
    have st5 := Bk.still I5 n5 rfl
    rcases turn i n H5 w5 with ⟨stop, qe⟩ | ⟨go, Nx, less, step⟩
    · refine thnF (T.done (X.blk s3 H3 scope ce fp) rfl rfl rfl hc i [] s5 _ H5 (fun _ _ => False) I5 st5 t5 stop) fun r s6 ⟨hr, I6⟩ => ?_
      subst hr
      obtain ⟨o1, o2, o3⟩ := bk.out I6
      exact hR s6 H5 o1 o2 o3 qe
    · refine thnF (T.item (X.blk s3 H3 scope ce fp) rfl rfl rfl hc i [] s5 _ H5 (fun _ _ => False) I5 st5 t5 go) fun r s6 ⟨u, hr, h6⟩ => ?_
      subst hr
      refine thnF h6 fun _ s7 ⟨x, H7, I7, r7, y7, t7, n7⟩ => ?_
      have P7 := I7.pinned (Bk.still I7 n7 rfl) (T.obj _ _ t7)
      have close : ∀ {σ8 : L2.St} {G : Hp} {sz : Shared}, wipe σ8 (own.map (·.2)) = wipe σ (own.map (·.2)) → Inv (X.blk s3 H3 scope ce fp) ([] ++ pinsAt fp s7.heap) σ8 G sz → Nx G → ∃ m, m < n ∧ Bk.At X σ H3 s3 scope ce fp (own.map (·.2)) tn Wi m sz := fun {σ8 G sz} hw I' nx => by
        obtain ⟨m, hm, w'⟩ := less G nx
        obtain ⟨a1, a2, a3⟩ := Bk.again T t7 I' hw
        exact ⟨m, hm, i + 1, G, a1, a2, a3, w'⟩
      refine thnF (pg.run _ s7 _ H7 x u _ P7 r7 (step x H7 y7)) fun _ s8 ⟨σ8, H8, I8, hw, q8⟩ => ?_
      refine thnF (pt.run _ s8 σ8 H8 _ I8 q8) fun b s9 ⟨H9, I9, q9⟩ => ?_
      dsimp only at q9
      by_cases hb : b = true
      · rw [if_pos hb] at q9 ⊢
        refine thnF (pk.run _ s9 σ8 H9 _ I9 q9) fun _ s10 ⟨yk, H10, I10, rk, q10⟩ => ?_
        refine thnF (pv.run _ s10 σ8 H10 _ I10 q10) fun _ s11 ⟨yv, H11, I11, rv, H12, put, nx⟩ => ?_
        have R10 : RelV yk _ := rk
        exact dset_any (X := X.blk s3 H3 scope ce fp) hu I11 put R10 rv fun s12 I12 => close hw I12 nx
      · rw [if_neg hb] at q9 ⊢
        exact close hw I9 q9
  have lp := whole _ (fin D ce.locals)
  have go := codeAny_compStart_dict lp (T.self X.A 0 _ _ _ t4 lp)
  subst e4 ece ecl es
  exact go
theorem swD {ky vy : Expr} {gs : List Comprehension} {sc : Scope} {q py : PySem.Pos} {y : Str} {l : Nat} {env : Env} (fn : env.scope.kind = .function) (at_ : env.scope.names.lookup y = some .local) (same : (py.line == q.line) = true)
    (out : (sc.names.any fun (n, k) => n == y && (k == .local || k == .cell)) = false) : swapsWith (.DictComp ky vy gs sc q) (some (.Name y py)) l env = pure true := by
  have e1 : env.blockKind = .function := by unfold Env.blockKind; rw [fn]; rfl
  have e2 : env.kindOf y = some .local := at_
  unfold swapsWith
  simp only [e1, e2, out, Expr.pos, same]; rfl
/-- name = {k: v for ..}, the name a local -/
theorem ps_setDcA {i : Nat} {y : Str} {py pos spos : PySem.Pos} (mt : Mty o0) (hu : X.A.units + 1 < cLine) (hc : X.calm = true) (hN : X.N.Nodup) (hy : X.N[i]? = some y) (hyl : X.env.scope.names.lookup y = some .local)
    (hsw : swapsWith (.DictComp kx vx [⟨tg, iter, ifs, 0⟩] scope pos) (some (.Name y py)) spos.line X.env = pure true) (hi : PI X tg iter wi) (ok : BlkOk X.N X.env.scope scope own) (hg : InBlk X scope fun Y => PG Y tg g) (ht : InBlk X scope fun Y => PTs Y ifs tt)
    (hk : InBlk X scope fun Y => PE Y kx tk) (hv : InBlk X scope fun Y => PE Y vx tv) (hs : ∀ x, foldedSetIterable iter X.env x = pure x := by intro _; rfl) :
    PS X (.Assign [.Name y py] (.DictComp kx vx [⟨tg, iter, ifs, 0⟩] scope pos) spos) (tAsg (tDcA o0 wi g tt tk tv (own.map (·.2))) (gName i)) := by
  refine ⟨fun pins s σ H D inv rd => ?_⟩
  rw [exec_Assign_Name_used _ _ _ _ hsw]; refine wpAny_bind (wpAny_standAt (wpAny_bind ?_))
  show wpAny _ X.A (do let _ ← comprehension (.DictComp kx vx [⟨tg, iter, ifs, 0⟩] scope pos) scope X.env (firstIterPos [⟨tg, iter, ifs, 0⟩] pos) newDict false (eval iter X.env) (some (assign (.Name y py) X.env))) _ _ s
  have rd : tDcA o0 wi g tt tk tv (own.map (·.2)) σ H (fun x H1 => gName i x σ H1 D.nx) := rd
  have fin : DcEnd X pins σ (fun x H1 => gName i x σ H1 D.nx) (some (assign (.Name y py) X.env)) fun _ s' => SP X pins D .next s' := fun L C s' G I ⟨m, hm⟩ ⟨g0, g1, _, g3, g4, g5⟩ qe => by
    show wpAny _ _ (assign (.Name y py) X.env (.ref L)) _ _ _
    refine wpAny_assign_Name (store_ok2 (v := V.ref L) I hN hy (.inl hyl) rfl (fun s2 I2 ⟨a, sb, ha⟩ => ⟨m, hm.sameBut sb ?_, fun h3 sb3 => ⟨_, G, I2.turned (t' := s2.toks) (fun b o hb e => (sb3.2 b hb).trans e) g0 g1 g3 g4 g5, qe⟩⟩) (.inr hyl))
    rcases ha with rfl | z
    · exact g1
    · exact fun e => g4 y a z e.symm
  exact wpAny_bind (thn (dcA_core mt hu hc hN hi ok hg ht hk hv hs inv rd fin) fun _ s' hq => wpAny_pure (wpAny_pure hq))
end
/-- the new dict stands empty while key and value are made -/
def Dsp1 (p : Addr) (Q : VK) (ps : List (V × V)) (H2 : Hp) : Prop := ∃ x y H3, ps = [(x, y)] ∧ H2 p = some (.dT []) ∧ DPut H2 p x y H3 ∧ Q (.ref p) H3
def tDisp1T (tk tv : TE) : TE := fun σ H Q => ∀ p, H p = none → tPairs [(tk, tv)] σ (upd H p (.dT [])) (Dsp1 p Q)
theorem i_disp1T {σ : L2.St} {H : Hp} {Q : VK} {tk tv : TE} (q : ∀ p, H p = none → tk σ (upd H p (.dT [])) fun x H1 => tv σ H1 fun y H2 => Dsp1 p Q [(x, y)] H2) : tDisp1T tk tv σ H Q := q
theorem dsp1 {H2 H3 : Hp} {p : Addr} {Q : VK} {x y : V} (e : H2 p = some (.dT [])) (d : DPut H2 p x y H3) (q : Q (.ref p) H3) : Dsp1 p Q [(x, y)] H2 := ⟨x, y, H3, rfl, e, d, q⟩
theorem pe_disp1T {X : Cx} {k v : Expr} {tk tv : TE} {pos : PySem.Pos} (hu : X.A.units + 1 < cLine) (hk : PE X k tk) (hv : PE X v tv) : PE X (.Dict [some k] [v] pos) (tDisp1T tk tv) := by
  refine ⟨fun pins s σ H Q I rd => ?_⟩
  have fresh := I.hok.fresh (Nat.le_refl s.heap.objs.size)
  have I1 := I.laid (a := s.heap.objs.size) (o := .dT []) (h' := s.heap.push { cls := .type "dict", data := .dict #[] }) (t' := s.toks) (fun _ _ e => Heap.get?_push_of_some _ e) (Nat.le_refl _) (mtyT s.heap I.big)
  have pps : PPs X pos [some k] [v] [(tk, tv)] := pps_cons hk hv pps_nil
  rw [arm_eval_Dict, zip_pairTrees [some k] [v] X.env pos rfl rfl, dictDisplay_pairs (pairTrees [some k] [v] X.env pos) (fun z => by cases z) (show 1 < 17 by decide)]
  refine wpAny_bind (wpAny_standAt (wpAny_bind (wpAny_subDictH (knd := tupleKind (mixKind X.prog X.w)) (Q := fun d s' => wpAny (model X.prog X.w) X.A (pure (Value.ref d)) (EP X pins σ Q) X.xe s') (show X.A.units < cLine from Nat.lt_of_succ_lt hu) (show 1 ≤ 15 by decide) ?_)))
  refine thn (pps.run pins _ σ _ (Dsp1 s.heap.objs.size Q) I1 (rd _ fresh)) fun ws s2 ⟨ps, H2, I2, rel, x, y, H3, e, eD, put, q3⟩ => ?_
  · subst e
    obtain ⟨_, hd, xs, r0, dd⟩ := dt_of I2.hok eD
    cases r0
    obtain ⟨kvs, kk, e1, _⟩ | ⟨kvs, kk, b, e1, rfl, eb, l, rfl⟩ := put
    · rw [eD] at e1; cases e1
    rw [eD] at e1
    cases e1
    cases rel with
    | @cons _ w1 _ w2 r1 r2 =>
    cases r2
    obtain ⟨u1, u2⟩ := w1
    have ru : RelV (.ref b) u1 := r1.1
    obtain rfl : u1 = Value.ref b := ru
    refine ⟨[(kk, b, u2)], ⟨rfl, rfl, key_of I2.hok eb, trivial⟩, dd, fun h' t' dn sb => wpAny_pure ?_⟩
    obtain ⟨o, es, ep, ho, rest⟩ := dn
    have stay : upd H2 s.heap.objs.size (.dT (putK [] kk y)) b = some (.tup (kk.map kV)) := (upd_ne (fun z => by rw [z, eD] at eb; cases eb)).trans eb
    exact ⟨.ref s.heap.objs.size, upd H2 s.heap.objs.size (.dT (putK [] kk y)), d_write I2 (by rw [eD]; trivial) sb ⟨o, ho⟩ ⟨by show 1 ≤ sizeLine; decide, hd, [(kk, b, u2)], .cons ⟨rfl, stay, r1.2⟩ .nil, o, es, ep, ho, rest.1, rest.2.1, rest.2.2.1, rest.2.2.2.2⟩, rfl, q3⟩
section
variable {K : PySem.W.Frag} {σ : L2.St} {H : Hp} {Q : VK} {tl tk tv : TE} {tt : TT} {ta : TA} {g : TG} {vs : List Nat} {o0 : HO} {a : Addr} {xs : List V}
/-- the reading's inner part: what holds behind i turns -/
def DcI (o0 : HO) (J : It) (g : TG) (tt : TT) (tk tv : TE) (vs : List Nat) (σ : L2.St) (H1 : Hp) (Q : VK) : Prop := ∀ D, H1 D = none → ∃ Wi : Nat → Nat → Hp → Prop, (∃ m, Wi 0 m (upd H1 D o0)) ∧ ∀ i m H', Wi i m H' →
  (J.stop i H' ∧ Q (.ref D) H') ∨ (J.go i H' ∧ ∃ Nx : Hp → Prop, (∀ G, Nx G → ∃ m', m' < m ∧ Wi (i + 1) m' G) ∧ ∀ x G, J.yld i H' x G → g x (wipe σ vs) G fun σ2 H2 => wipe σ2 vs = wipe σ vs ∧ tt σ2 H2 fun b H4 =>
    if b = true then tk σ2 H4 fun y H5 => tv σ2 H5 fun z H6 => ∃ H7, DPut H6 D y z H7 ∧ Nx H7 else Nx H4)
/-- a turn: x is stored -/
def DcT (Nx : Hp → Prop) (g : TG) (tt : TT) (tk tv : TE) (vs : List Nat) (σ : L2.St) (D : Addr) (x : V) (H' : Hp) : Prop := g x (wipe σ vs) H' fun σ2 H2 => wipe σ2 vs = wipe σ vs ∧ tt σ2 H2 fun b H4 => if b = true then tk σ2 H4 fun y H5 => tv σ2 H5 fun z H6 => ∃ H7, DPut H6 D y z H7 ∧ Nx H7 else Nx H4
/-- over what is told by its length: turns from 0 to n, each i yields y i and leaves the heap as it is -/
theorem dc_walk {J : It} {n : Nat} {y : Nat → V → Prop} (Pv : Addr → Nat → Hp → Prop) (hgo : ∀ D i H', i < n → Pv D i H' → J.go i H') (hst : ∀ D H', Pv D n H' → J.stop n H') (hy : ∀ D i H' x G, i < n → Pv D i H' → J.yld i H' x G → G = H' ∧ y i x)
    (h0 : ∀ D, H D = none → Pv D 0 (upd H D o0)) (hs : ∀ D i x H', H D = none → i < n → y i x → Pv D i H' → DcT (Pv D (i + 1)) g tt tk tv vs σ D x H') (hd : ∀ D H', H D = none → Pv D n H' → Q (.ref D) H') : DcI o0 J g tt tk tv vs σ H Q := by
  intro D nD
  refine ⟨fun i m H' => m + i = n ∧ Pv D i H', ⟨n, by omega, h0 D nD⟩, fun i m H' ⟨hm, p⟩ => ?_⟩
  by_cases hi : i < n
  · refine .inr ⟨hgo D i H' hi p, Pv D (i + 1), fun G p' => ⟨m - 1, by omega, by omega, p'⟩, fun x G yy => ?_⟩
    obtain ⟨rfl, hx⟩ := hy D i H' x G hi p yy
    exact hs D i x G nD hi hx p
  · obtain rfl : i = n := by omega
    exact .inl ⟨hst D H' p, hd D H' nD p⟩
/-- [k: v for target in a tuple] -/
theorem c_dcT (ha : ∀ R : VK, R (.ref a) H → tl σ H R) (hx : SqT K H a xs) (Pv : Addr → Nat → Hp → Prop) (hl : ∀ D i H', i ≤ xs.length → Pv D i H' → SqT K H' a xs) (h0 : ∀ D, H D = none → Pv D 0 (upd H D o0))
    (hs : ∀ D i x H', H D = none → xs[i]? = some x → Pv D i H' → DcT (Pv D (i + 1)) g tt tk tv vs σ D x H') (hd : ∀ D H', H D = none → Pv D xs.length H' → Q (.ref D) H') : tDcA o0 (iAny K tl) g tt tk tv vs σ H Q := by
  refine ha _ (.inr (.inl ⟨a, xs, rfl, hx, ?_⟩))
  refine dc_walk (J := Itt K a) (n := xs.length) (y := fun i x => xs[i]? = some x) Pv (fun D i H' hi p => ⟨xs, xs[i], hl D i H' (Nat.le_of_lt hi) p, List.getElem?_eq_getElem hi⟩) (fun D H' p => ⟨xs, hl D _ H' (Nat.le_refl _) p, Nat.le_refl _⟩)
    (fun D i H' x G hi p y => ⟨y.1, y.2 xs (hl D i H' (Nat.le_of_lt hi) p)⟩) h0 (fun D i x H' nD hi hx p => hs D i x H' nD hx p) hd
end
end Fg
namespace Fg
open PySem PySem.Spec PyProof.Rows L2
def LcG (g : TG) (tt : TT) (te : TE) (vs : List Nat) (σ : L2.St) (Q : VK) : It → Hp → Prop := fun J H1 => tLc (fun _ _ R => R J H1) g tt te vs σ H1 Q
section
variable {K : PySem.W.Frag} {σ : L2.St} {H : Hp} {Q : VK} {te tl : TE} {tt : TT} {g : TG} {ta : TA} {j : Nat} {vs : List Nat} {a : Addr} {xs : List V}
theorem i_lcR (q : ta σ H fun us H1 => ∃ n : Int, us = [.int n] ∧ -(2 ^ 62) ≤ n ∧ n < 2 ^ 62 ∧ LcG g tt te vs σ Q (Itr 0 n.toNat) H1) : tLc (iRng1 ta) g tt te vs σ H Q := q
theorem i_lcRg {n : Int} (h0 : 0 ≤ n) (h : n ≤ 100000) (hw : ∀ x, wipe ((wipe σ vs).set j (some x)) vs = wipe σ vs)
    (k : ∀ Dl, H Dl = none → ∃ W : Nat → Hp → Prop, W 0 (upd H Dl (.lst [])) ∧ (∀ (i : Nat) H', (i : Int) < n → W i H' → te ((wipe σ vs).set j (some (.int (i : Int)))) H' fun y H2 => ∃ acc, H2 Dl = some (.lst acc) ∧ acc.length < sizeLine ∧ W (i + 1) (upd H2 Dl (.lst (acc ++ [y])))) ∧ ∀ H', W n.toNat H' → Q (.ref Dl) H') :
    ∃ n' : Int, [V.int n] = [.int n'] ∧ -(2 ^ 62) ≤ n' ∧ n' < 2 ^ 62 ∧ LcG (gName j) tYes te vs σ Q (Itr 0 n'.toNat) H := by
  refine ⟨n, rfl, by omega, by omega, fun Dl nD => ?_⟩
  obtain ⟨W, w0, ws, wd⟩ := k Dl nD
  refine lc_range W w0 (fun i H' hi p => ?_) wd
  rw [Int.zero_add]
  exact ⟨hw _, i_yes (i_tt (ws i H' (by omega) p))⟩
end
end Fg
namespace Fg
open PySem PySem.Spec PyProof.Rows L2
/-- the promise of the def at f, where no display stands around -/
structure GOk (P : Program) (w : World) (K : PySem.W.Frag) (mg : Str → Option Value) (base : Heap) (CX : CXT) (k : Nat) (f : Addr) (fd : FuncData) (ps : List Str) (sp : Sp) : Prop where
  many : ∀ vs H Q E, sp vs H Q E → vs.length = ps.length
  runs : ∀ (B : Around) (o : List Env) (t : Shared) (H : Hp) (ar : Args) (us : List Value) (vs : List V) (Q : VK) (E : XK),
    B.guards = some [] → Room k B → Env0 P w K mg base B o t H → BindsTo t fd ar (ps.zip us) → Vals vs us →
    sp vs H Q E → codeAny (model P w) B (.call (.ref f) ar) (CR CX o P w H t Q E) t
section
variable {P : Program} {w : World} {K : PySem.W.Frag} {mg : Str → Option Value} {base : Heap} {CX : CXT} {k : Nat} {f : Addr} {fd : FuncData} {ps N : List Str} {sp : Sp} {x q : Str} {st : Stmt}
theorem GOk.of (F : FnOk P w K mg base CX k f fd ps sp) : GOk P w K mg base CX k f fd ps sp :=
  ⟨F.len, fun B o t H ar us vs Q E _ r e b v s => F.run B o t H ar us vs Q E r e b v s⟩
/-- a def's body, walked where no display stands around -/
theorem gok_mk (F : Fun K x q st f fd) (S : FnScope N ps (defScope st)) (many : ∀ vs H Q E, sp vs H Q E → vs.length = ps.length)
    (body : ∀ (cv : Value) (B : Around) (o : List Env) (t : Shared) (H : Hp) (vs : List V) (Q : VK) (E : XK), B.guards = some [] →
      Room k (B.deeper (envOfC q (defScope st) t.heap.objs.size f cv)) → sp vs H Q E →
      ∃ rd, PSs (cxOf CX P w K mg base N q (defScope st) f cv B o t H E) (defBody st) rd ∧
        rd { nx := fun _ H2 => Q .non H2, rt := Q } (start N vs) H) : GOk P w K mg base CX (k + 1) f fd ps sp := by
  obtain ⟨c1, d1, kw1, dc1, pm1, an1, cv1, ct1, sl1, rfl, at1, code1⟩ := F.ex
  refine ⟨many, fun B o t H ar us vs Q E hgu room en bd rv asked => ?_⟩
  have inK : K.In t.heap := en.mod.kin.keeps fun b u e => (en.bs b u e).1
  have nolim : t.heap.NoLimit := en.mod.nolimit.keeps fun b u e => (en.bs b u e).1
  have n1 := many _ _ _ _ asked
  refine codeAny_call_function room.depth (inK _ _ at1) rfl S.co S.gen rfl
    (PySem.W.codeRec_of inK code1) (bd _ _ _ _ ?_)
  refine wpAny_newFunctionEnv_cells S.kind (fun ⟨nm, u⟩ hm => ?_) fun env he t1 made => ?_
  · exact (S.par nm (List.of_mem_zip hm).1).elim .inl fun z => .inr ⟨z, PySem.W.cellsFrom_some _ _ _ (.inl z)⟩
  subst he
  obtain ⟨rd, walked, holds⟩ := body cv1 B o t H vs Q E hgu (room.deeper _) asked
  have I0 := inv_start (CX := CX) (E := E) S room.hd en n1 rv made
  refine ⟨nolim.keeps made.toInCall.keep, codeAny_func (wpAny_mono (walked.run [] t1 (start N vs) H _ I0 holds) (fun fl t2 h2 => ?_) fun _ _ h2 => h2)⟩
  cases fl with
  | brk => obtain ⟨_, _, _, z⟩ := h2; exact z.elim
  | cont => obtain ⟨_, _, _, z⟩ := h2; exact z.elim
  | next =>
    obtain ⟨_, H2, J, z⟩ := h2
    exact ⟨.non, H2, J.os, J.bare, J.base, J.hok, rfl, z⟩
  | ret u =>
    obtain ⟨v, _, H2, J, rv2, z⟩ := h2
    exact ⟨v, H2, J.os, J.bare, J.base, J.hok, rv2, z⟩
end
section
variable {X : Cx} {CX : CXT} {k : Nat} {f : Addr} {fd : FuncData} {ps : List Str} {sp : Sp} {E : XK} {x : Str} {p pos : PySem.Pos} {e : Expr} {es : List Expr} {ta : TA}
/-- .. and how it stands in the text -/
def GOK (P : Program) (w : World) (K : PySem.W.Frag) (mg : Str → Option Value) (base : Heap) (CX : CXT) (k : Nat) (x : Str) (ps : List Str) (sp : Sp) : Prop :=
  ∃ (f : Addr) (fd : FuncData), GOk P w K mg base CX k f fd ps sp ∧ mg x = some (.ref f) ∧ PySem.W.keepIn K (.ref f) = true ∧ Binds K fd ps []
end
/-- one heap in which the script alone may be tracked -/
def SoleAt (K : PySem.W.Frag) (a : Addr) (t : Heap) (P : Program) (w : World) (xs : List V) (H : Hp) : Prop :=
  (∀ b u, H b = some u → b = a ∧ ∃ ob, u = .frz ob (.lst xs)) ∧ SqL K H a xs ∧ HOk P w H t ∧ (H a ≠ none → K.lookup a = none)
theorem law_g {P : Program} {w : World} {K : PySem.W.Frag} {mg mb : Str → Option Value} {CX : CXT} {k : Nat} {fa a : Addr} {fd : FuncData} {x : Str} {sp : Sp} {t : Shared} {vs : List Value} {ns : List Int}
    (inK : K.In t.heap) (nsM : t.heap.Ns mainGlobals mg) (nsB : t.heap.Ns builtinsNs mb) (boot : ∀ y : Str, y ≠ "__name__" → mb y = bootBuiltins y) (lim : t.heap.NoLimit) (noGen : t.gens = #[])
    (script : t.heap.get? a = some { cls := .type "list", data := .seq vs.toArray }) (hni : IntsAre vs ns) (few : ns.length ≤ sizeLine) (room : Room k callerA)
    (F : ∀ base : Heap, K.In base → base.Ns mainGlobals mg → GOk P w K mg base CX k fa fd [x] sp) (bind : ∀ (s : Shared) (u : Value), BindsTo s fd ⟨[u], []⟩ [(x, u)])
    (asked : ∀ H : Hp, Only H → SqL K H a (ns.map V.int) → sp [.ref a] H (fun v _ => v = .bl true) fun _ _ _ => False)
    (noErr : ∀ H e s', CX [] H t (fun _ _ _ => False) e s' → False) :
    codeAny (model P w) callerA (.call (.ref fa) ⟨[.ref a], []⟩) (fun r t2 => r = .ok (.ret (.bool true)) ∧ OldK t.heap t2.heap ∧ t2.os = t.os ∧ AllBare t2.gens) t := by
  have hv := vals_ints hni
  have hlen : vs.length = ns.length := hni.length
  obtain ⟨H, sole, sq, hok, free⟩ : ∃ H, SoleAt K a t.heap P w (ns.map V.int) H := by
    by_cases hk : ∃ o, K.lookup a = some o
    · obtain ⟨o, hk⟩ := hk
      have e1 := inK a o hk
      rw [script] at e1
      cases e1
      exact ⟨fun _ => none, fun b u z => (nomatch z), .inr ⟨_, vs.toArray, _, hk, rfl, rfl, rfl, by rw [List.size_toArray, hlen]; exact few, by simpa using hv⟩, fun b u z => (nomatch z), fun z => absurd rfl z⟩
    · have hn : K.lookup a = none := by
        cases e1 : K.lookup a with
        | none => rfl
        | some o => exact absurd ⟨o, e1⟩ hk
      have at1 : ∀ b u, (if b = a then some (HO.frz { cls := .type "list", data := .seq vs.toArray } (.lst (ns.map V.int))) else none) = some u → b = a ∧ u = HO.frz { cls := .type "list", data := .seq vs.toArray } (.lst (ns.map V.int)) := fun b u z => by
        by_cases hb : b = a
        · rw [if_pos hb] at z; exact ⟨hb, (Option.some.inj z).symm⟩
        · rw [if_neg hb] at z; cases z
      refine ⟨fun b => if b = a then some (HO.frz { cls := .type "list", data := .seq vs.toArray } (.lst (ns.map V.int))) else none, fun b u z => ⟨(at1 b u z).1, _, (at1 b u z).2⟩, .inl (.inr ⟨_, if_pos rfl⟩), fun b u z => ?_, fun _ => hn⟩
      obtain ⟨rfl, rfl⟩ := at1 b u z
      exact ⟨script, by rw [List.length_map]; exact few, vs, _, hv, script⟩
  have only : Only H := fun b => by
    cases e1 : H b with
    | none => exact .inl rfl
    | some u =>
      obtain ⟨_, ob, rfl⟩ := sole b u e1
      exact .inr ⟨ob, _, rfl⟩
  -- the base: what stands, the script hidden if it is tracked
  have hid : ∀ {b : Addr} {o : Obj}, t.heap.get? b = some o → (b = a → H a = none) → (hidT t.heap H).get? b = some o := fun {b o} e1 e2 => hidT_get e1 (by
    cases e3 : H b with
    | none => rfl
    | some u =>
      obtain ⟨rfl, _⟩ := sole b u e3
      rw [e2 rfl] at e3; cases e3)
  have ns : ∀ {b : Addr} {m : Str → Option Value}, t.heap.Ns b m → (hidT t.heap H).Ns b m := fun {b m} ⟨o, es, ep, e1, d1, r1⟩ => ⟨o, es, ep, hid e1 (fun z => by
    subst z
    rw [script] at e1
    cases e1
    cases (show Data.seq vs.toArray _ = Data.dict es ep from d1)), d1, r1⟩
  have inB : K.In (hidT t.heap H) := fun b o e1 => hid (inK b o e1) fun z => by
    subst z
    by_cases e2 : H b = none
    · exact e2
    · rw [free e2] at e1; cases e1
  obtain ⟨mc, l1, l2⟩ := lim
  have en : Env0 P w K mg (hidT t.heap H) callerA [] t H :=
    ⟨rfl, ⟨inB, ns nsM, ⟨mb, ns nsB, boot⟩, ⟨mc, ns l1, l2⟩⟩, fun b o e1 => of_hidT e1, Nat.le_of_eq (hidT_size _ _), trivial,
      fun b hb => absurd (show b ∈ ([] : List Addr) from hb) (by simp), hok, .of_eq noGen⟩
  refine codeAny_mono ((F _ inB (ns nsM)).runs callerA [] t H ⟨[.ref a], []⟩ [.ref a] [.ref a] _ _ rfl room en (bind t (.ref a)) (.cons rfl .nil) (asked H only sq)) fun res t2 h2 => ?_
  cases res with
  | error z => exact (noErr H z t2 h2).elim
  | ok fl =>
    cases fl with
    | next => exact h2.elim
    | brk => exact h2.elim
    | cont => exact h2.elim
    | ret u =>
      obtain ⟨v, H2, os, bare, un, hok2, rv, q⟩ := h2
      have q : v = .bl true := q
      subst q
      cases (show u = Value.bool true from rv)
      refine ⟨rfl, OldK.of_keep fun b o e1 => ?_, os, bare⟩
      cases e2 : H b with
      | none => exact un.keep b o e1 e2 (fun z => absurd (show b ∈ ([] : List Addr) from z) (by simp)) (by simp)
      | some u =>
        obtain ⟨rfl, ob, rfl⟩ := sole b u e2
        obtain ⟨k1, _⟩ := hok _ _ e2
        obtain ⟨k2, _⟩ := hok2 _ _ (un.frzs _ ob _ e2)
        rw [e1] at k1; cases k1
        exact k2
theorem walk_g {l : PySem.W.OpenLaw} {n k : Nat} {q : Program} {loose : List Str} {XP : (Str → Option Value) → Heap → Prop} {YP : World → Heap → Prop} {d : DefRec} {K : Params → PySem.W.Frag} {CX : World → CXT} {sp : World → Sp} {x : Str}
    (hn : l.most = some n) (hn2 : n ≤ sizeLine) (hdf : d.params.defaults = []) (room : Room k callerA) (hY : ∀ (w : World) (h : Heap), YP w h → (K w.params).In h)
    (F : ∀ (w : World) (mg : Str → Option Value) (fa : Addr) (h : Heap), (K w.params).In h → h.Ns mainGlobals mg → mg d.name = some (.ref fa) →
      ∃ fd : FuncData, (∀ (s : Shared) (u : Value), BindsTo s fd ⟨[u], []⟩ [(x, u)]) ∧ ∀ base : Heap, (K w.params).In base → base.Ns mainGlobals mg → GOk l.prog w (K w.params) mg base (CX w) k fa fd [x] (sp w))
    (asked : ∀ (w : World) (H : Hp) (a : Addr) (ns : List Int), ns.length ≤ n → Only H → SqL (K w.params) H a (ns.map V.int) → sp w [.ref a] H (fun v _ => v = .bl true) fun _ _ _ => False)
    (noErr : ∀ (w : World) (H : Hp) (s : Shared) (e : Value) (s' : Shared), CX w [] H s (fun _ _ _ => False) e s' → False) :
    PySem.W.WalkO q loose XP YP l.row.toRowW d [] (fun f vs => PySem.call f vs) :=
  Att.attach_call hn hdf fun w s0 t mg mb fa o pm cd doc a vs ns G Y ho hd hcd hmg hobj hints hlen hg =>
    let ⟨fd, hb, hF⟩ := F w mg fa _ (hY w _ Y) G.T.g hmg
    law_g (hY w _ Y) G.T.g G.T.b G.T.builtins G.T.nolimit hg hobj hints (Nat.le_trans hlen hn2) room hF hb
      (fun H hO hS => asked w H a ns hlen hO hS) fun H e s' => noErr w H t e s'
end Fg
namespace Fg
open PySem PySem.Spec PyProof.Rows L2
/-- a def with defaults dvs keeps its promise -/
def OKD (P : Program) (w : World) (K : PySem.W.Frag) (mg : Str → Option Value) (base : Heap) (CX : CXT) (k : Nat) (x : Str) (ps : List Str) (dvs : List V) (sp : Sp) : Prop :=
  ∃ (f : Addr) (fd : FuncData), FnOk P w K mg base CX k f fd ps sp ∧ mg x = some (.ref f) ∧ PySem.W.keepIn K (.ref f) = true ∧ Binds K fd ps [] ∧ ∃ ds, Vals dvs ds ∧ Binds K fd ps ds
/-- .. how it stands in the text -/
def DefD (K : PySem.W.Frag) (mg : Str → Option Value) (x : Str) (st : Stmt) (ps : List Str) (dvs : List V) : Prop :=
  ∃ (f : Addr) (fd : FuncData), FunD K x x (defArgs st) (defBody st) (defScope st) dvs [] f fd ∧ mg x = some (.ref f) ∧ Binds K fd ps [] ∧ ∃ ds, Vals dvs ds ∧ Binds K fd ps ds
section
variable {P : Program} {w : World} {K : PySem.W.Frag} {mg : Str → Option Value} {base : Heap} {x q m : Str} {st : Stmt} {N ps : List Str} {k : Nat} {sp : Sp} {dvs : List V} {C : Addr} {CX : CXT}
theorem OKD.full (G : OKD P w K mg base CX k x ps dvs sp) : OK P w K mg base CX k x ps sp := by
  obtain ⟨f, fd, F, hm, hk, hb, _⟩ := G
  exact ⟨f, fd, F, hm, hk, hb⟩
theorem FunD.ok0 {f : Addr} {fd : FuncData} {kws : List (Str × V)} (F : FunD K x q (defArgs st) (defBody st) (defScope st) dvs kws f fd) (S : FnScope N ps (defScope st)) (len : ∀ vs H Q E, sp vs H Q E → vs.length = ps.length)
    (body : ∀ (cdv : Value) (A : Around) (outer : List Env) (s : Shared) (H : Hp) (vs : List V) (Q : VK) (E : XK), Room k (A.deeper (envOfC q (defScope st) s.heap.objs.size f cdv)) → sp vs H Q E →
      ∃ t, PSs (cxOf CX0 P w K mg base N q (defScope st) f cdv A outer s H E).nox (defBody st) t ∧ t { nx := fun _ H' => Q .non H', rt := Q } (start N vs) H) : FnOk P w K mg base CX0 (k + 1) f fd ps sp :=
  F.ok S len fun cdv A outer s H vs Q E hr h => let ⟨t, z, e⟩ := body cdv A outer s H vs Q E hr h; ⟨t, z.nox, e⟩
theorem OKD.mk (D : DefD K mg x st ps dvs) (S : FnScope N ps (defScope st)) (len : ∀ vs H Q E, sp vs H Q E → vs.length = ps.length)
    (body : ∀ (f : Addr) (cdv : Value) (A : Around) (outer : List Env) (s : Shared) (H : Hp) (vs : List V) (Q : VK) (E : XK), Room k (A.deeper (envOfC x (defScope st) s.heap.objs.size f cdv)) → sp vs H Q E →
      ∃ t, PSs (cxOf CX0 P w K mg base N x (defScope st) f cdv A outer s H E).nox (defBody st) t ∧ t { nx := fun _ H' => Q .non H', rt := Q } (start N vs) H) : OKD P w K mg base CX0 (k + 1) x ps dvs sp := by
  obtain ⟨f, fd, F, hm, hb, hd⟩ := D
  exact ⟨f, fd, FunD.ok0 F S len fun cdv A outer s H vs Q E hr h => body f cdv A outer s H vs Q E hr h, hm, F.kp, hb, hd⟩
theorem OKD.mkX (D : DefD K mg x st ps dvs) (S : FnScope N ps (defScope st)) (len : ∀ vs H Q E, sp vs H Q E → vs.length = ps.length)
    (body : ∀ (f : Addr) (cdv : Value) (A : Around) (outer : List Env) (s : Shared) (H : Hp) (vs : List V) (Q : VK) (E : XK), Room k (A.deeper (envOfC x (defScope st) s.heap.objs.size f cdv)) → sp vs H Q E →
      ∃ t, PSs (cxOf (L2.CX P w) P w K mg base N x (defScope st) f cdv A outer s H E) (defBody st) t ∧ t { nx := fun _ H' => Q .non H', rt := Q } (start N vs) H) : OKD P w K mg base (L2.CX P w) (k + 1) x ps dvs sp := by
  obtain ⟨f, fd, F, hm, hb, hd⟩ := D
  exact ⟨f, fd, F.ok S len fun cdv A outer s H vs Q E hr h => body f cdv A outer s H vs Q E hr h, hm, F.kp, hb, hd⟩
/-- a method of the class at C as it stands in the text -/
def MetIn (K : PySem.W.Frag) (C : Addr) (m q : Str) (st : Stmt) (ps : List Str) (dvs : List V) : Prop :=
  ∃ (f : Addr) (fd : FuncData), Meth K C m f ∧ FunD K m q (defArgs st) (defBody st) (defScope st) dvs [] f fd ∧ Binds K fd ps [] ∧ ∃ ds, Vals dvs ds ∧ Binds K fd ps ds
/-- .. and it keeps its promise -/
def MOK (P : Program) (w : World) (K : PySem.W.Frag) (mg : Str → Option Value) (base : Heap) (CX : CXT) (k : Nat) (C : Addr) (m : Str) (ps : List Str) (dvs : List V) (sp : Sp) : Prop :=
  ∃ (f : Addr) (fd : FuncData), Meth K C m f ∧ FnOk P w K mg base CX k f fd ps sp ∧ Binds K fd ps [] ∧ ∃ ds, Vals dvs ds ∧ Binds K fd ps ds
theorem MOK.mk (D : MetIn K C m q st ps dvs) (S : FnScope N ps (defScope st)) (len : ∀ vs H Q E, sp vs H Q E → vs.length = ps.length)
    (body : ∀ (f : Addr) (cdv : Value) (A : Around) (outer : List Env) (s : Shared) (H : Hp) (vs : List V) (Q : VK) (E : XK), Room k (A.deeper (envOfC q (defScope st) s.heap.objs.size f cdv)) → sp vs H Q E →
      ∃ t, PSs (cxOf CX0 P w K mg base N q (defScope st) f cdv A outer s H E).nox (defBody st) t ∧ t { nx := fun _ H' => Q .non H', rt := Q } (start N vs) H) : MOK P w K mg base CX0 (k + 1) C m ps dvs sp := by
  obtain ⟨f, fd, hm, F, hb, hd⟩ := D
  exact ⟨f, fd, hm, FunD.ok0 F S len fun cdv A outer s H vs Q E hr h => body f cdv A outer s H vs Q E hr h, hb, hd⟩
theorem MOK.mkX (D : MetIn K C m q st ps dvs) (S : FnScope N ps (defScope st)) (len : ∀ vs H Q E, sp vs H Q E → vs.length = ps.length)
    (body : ∀ (f : Addr) (cdv : Value) (A : Around) (outer : List Env) (s : Shared) (H : Hp) (vs : List V) (Q : VK) (E : XK), Room k (A.deeper (envOfC q (defScope st) s.heap.objs.size f cdv)) → sp vs H Q E →
      ∃ t, PSs (cxOf (L2.CX P w) P w K mg base N q (defScope st) f cdv A outer s H E) (defBody st) t ∧ t { nx := fun _ H' => Q .non H', rt := Q } (start N vs) H) : MOK P w K mg base (L2.CX P w) (k + 1) C m ps dvs sp := by
  obtain ⟨f, fd, hm, F, hb, hd⟩ := D
  exact ⟨f, fd, hm, F.ok S len fun cdv A outer s H vs Q E hr h => body f cdv A outer s H vs Q E hr h, hb, hd⟩
/-- a class whose instances its __init__ makes -/
def MkIn (K : PySem.W.Frag) (mg : Str → Option Value) (x q : Str) (C : Addr) (st : Stmt) (ps : List Str) (dvs : List V) : Prop :=
  ∃ (f : Addr) (fd : FuncData), Mk K C f ∧ mg x = some (.ref C) ∧ FunD K "__init__" q (defArgs st) (defBody st) (defScope st) dvs [] f fd ∧ Binds K fd ps [] ∧ ∃ ds, Vals dvs ds ∧ Binds K fd ps ds
def MkOK (P : Program) (w : World) (K : PySem.W.Frag) (mg : Str → Option Value) (base : Heap) (CX : CXT) (k : Nat) (x : Str) (C : Addr) (ps : List Str) (dvs : List V) (sp : Sp) : Prop :=
  ∃ (f : Addr) (fd : FuncData), Mk K C f ∧ mg x = some (.ref C) ∧ FnOk P w K mg base CX k f fd ps sp ∧ Binds K fd ps [] ∧ ∃ ds, Vals dvs ds ∧ Binds K fd ps ds
theorem MkOK.mk (D : MkIn K mg x q C st ps dvs) (S : FnScope N ps (defScope st)) (len : ∀ vs H Q E, sp vs H Q E → vs.length = ps.length)
    (body : ∀ (f : Addr) (cdv : Value) (A : Around) (outer : List Env) (s : Shared) (H : Hp) (vs : List V) (Q : VK) (E : XK), Room k (A.deeper (envOfC q (defScope st) s.heap.objs.size f cdv)) → sp vs H Q E →
      ∃ t, PSs (cxOf CX0 P w K mg base N q (defScope st) f cdv A outer s H E).nox (defBody st) t ∧ t { nx := fun _ H' => Q .non H', rt := Q } (start N vs) H) : MkOK P w K mg base CX0 (k + 1) x C ps dvs sp := by
  obtain ⟨f, fd, M, hm, F, hb, hd⟩ := D
  exact ⟨f, fd, M, hm, FunD.ok0 F S len fun cdv A outer s H vs Q E hr h => body f cdv A outer s H vs Q E hr h, hb, hd⟩
theorem MkOK.mkX (D : MkIn K mg x q C st ps dvs) (S : FnScope N ps (defScope st)) (len : ∀ vs H Q E, sp vs H Q E → vs.length = ps.length)
    (body : ∀ (f : Addr) (cdv : Value) (A : Around) (outer : List Env) (s : Shared) (H : Hp) (vs : List V) (Q : VK) (E : XK), Room k (A.deeper (envOfC q (defScope st) s.heap.objs.size f cdv)) → sp vs H Q E →
      ∃ t, PSs (cxOf (L2.CX P w) P w K mg base N q (defScope st) f cdv A outer s H E) (defBody st) t ∧ t { nx := fun _ H' => Q .non H', rt := Q } (start N vs) H) : MkOK P w K mg base (L2.CX P w) (k + 1) x C ps dvs sp := by
  obtain ⟨f, fd, M, hm, F, hb, hd⟩ := D
  exact ⟨f, fd, M, hm, F.ok S len fun cdv A outer s H vs Q E hr h => body f cdv A outer s H vs Q E hr h, hb, hd⟩
end
section
variable {X : Cx} {CX : CXT} {k n : Nat} {x m : Str} {ps ks : List Str} {sp : Sp} {dvs : List V} {E : XK} {o e : Expr} {es : List Expr} {kws : List Keyword} {to : TE} {ta tk : TA} {p pos apos : PySem.Pos} {C : Addr}
/-- f(e, ..), the defaults filling up -/
theorem pe_fd (G : OKD X.prog X.w X.K X.mg X.base CX k x ps dvs sp) (hr : Room k X.A) (hx : Passes CX X E) (ha : PA X (e :: es) ta) (hg : Gl X x := by rfl) (hd : (x == ("__debug__" : Str)) = false := by decide)
    (he : starEach (e :: es) X.env = (false, eval e X.env) :: starEach es X.env := by rfl) (hpl : (backTo pos (starEach es X.env)).any (·.1) = false := by rfl) :
    PE X (.Call (.Name x p) (e :: es) [] pos) (tCall sp dvs E ta) := by
  obtain ⟨f, fd, F, hm, hk, _, ds, hv, hb⟩ := G
  exact pe_call F hr hg hm hk hb hv hx ha hd he hpl
theorem pe_mk (G : MkOK X.prog X.w X.K X.mg X.base CX k x C ps dvs sp) (hr : Room (k + 1) X.A) (hx : Passes CX X E) (ha : PA X (e :: es) ta) (hg : Gl X x := by rfl) (hd : (x == ("__debug__" : Str)) = false := by decide)
    (he : starEach (e :: es) X.env = (false, eval e X.env) :: starEach es X.env := by rfl) (hpl : (backTo pos (starEach es X.env)).any (·.1) = false := by rfl) :
    PE X (.Call (.Name x p) (e :: es) [] pos) (tMake C sp [] E ta) := by
  obtain ⟨f, fd, M, hm, F, hb, _⟩ := G
  exact pe_make M F hr hg hm hb .nil hx ha hd he hpl
/-- how it binds with the keywords ks: all parameters are given, in their order -/
def KwIn (K : PySem.W.Frag) (C : Addr) (m q : Str) (st : Stmt) (ps : List Str) (dvs : List V) (n : Nat) (ks : List Str) : Prop :=
  ∃ (f : Addr) (fd : FuncData), Meth K C m f ∧ FunD K m q (defArgs st) (defBody st) (defScope st) dvs [] f fd ∧ KBn K fd ps n ks (fun us ws => us ++ ws) (fun vs zs => vs ++ zs)
def KOK (P : Program) (w : World) (K : PySem.W.Frag) (mg : Str → Option Value) (base : Heap) (CX : CXT) (k : Nat) (C : Addr) (m : Str) (ps : List Str) (n : Nat) (ks : List Str) (sp : Sp) : Prop :=
  ∃ (f : Addr) (fd : FuncData), Meth K C m f ∧ FnOk P w K mg base CX k f fd ps sp ∧ KBn K fd ps n ks (fun us ws => us ++ ws) (fun vs zs => vs ++ zs)
/-- the same def: one promise -/
theorem KOK.of {P : Program} {w : World} {K : PySem.W.Frag} {mg : Str → Option Value} {base : Heap} {q : Str} {st : Stmt} (D : KwIn K C m q st ps dvs n ks) (G : MOK P w K mg base CX k C m ps dvs sp)
    (same : ∀ f g fd gd, Meth K C m f → Meth K C m g → FunD K m q (defArgs st) (defBody st) (defScope st) dvs [] f fd → FnOk P w K mg base CX k g gd ps sp → FnOk P w K mg base CX k f fd ps sp) : KOK P w K mg base CX k C m ps n ks sp := by
  obtain ⟨f, fd, hm, F, hk⟩ := D
  obtain ⟨g, gd, hn, G, _⟩ := G
  exact ⟨f, fd, hm, same f g fd gd hm hn F G, hk⟩
theorem KOK.mkX {P : Program} {w : World} {K : PySem.W.Frag} {mg : Str → Option Value} {base : Heap} {q : Str} {st : Stmt} {N : List Str} (D : KwIn K C m q st ps dvs n ks) (S : FnScope N ps (defScope st)) (len : ∀ vs H Q E, sp vs H Q E → vs.length = ps.length)
    (body : ∀ (f : Addr) (cdv : Value) (A : Around) (outer : List Env) (s : Shared) (H : Hp) (vs : List V) (Q : VK) (E : XK), Room k (A.deeper (envOfC q (defScope st) s.heap.objs.size f cdv)) → sp vs H Q E →
      ∃ t, PSs (cxOf (L2.CX P w) P w K mg base N q (defScope st) f cdv A outer s H E) (defBody st) t ∧ t { nx := fun _ H' => Q .non H', rt := Q } (start N vs) H) : KOK P w K mg base (L2.CX P w) (k + 1) C m ps n ks sp := by
  obtain ⟨f, fd, hm, F, hb⟩ := D
  exact ⟨f, fd, hm, F.ok S len fun cdv A outer s H vs Q E hr h => body f cdv A outer s H vs Q E hr h, hb⟩
end
/-- C(e, ..): an error whose dict, new, holds the two fields, the later one first -/
def tMkE2 (C : Addr) (f g : Str) (ta : TA) : L2.St → Hp → XK → Prop := fun σ H Q => ta σ H fun vs H1 => ∃ v y, vs = [v, y] ∧ ∀ d, H1 d = none → Q (.ref C) (some d) (upd H1 d (.xd [(g, y), (f, v)]))
/-- the wish for an error of the class at C whose dict, new, holds fs -/
def Rzf (E : XK) (H : Hp) (C : Addr) (fs : List (Str × V)) : Prop := ∀ d H', H d = none → Same H H' → H' d = some (.xd fs) → E (.ref C) (some d) H'
theorem Rzf.mono {E : XK} {H H1 : Hp} {C : Addr} {fs : List (Str × V)} (h : Rzf E H C fs) (s : Same H H1) : Rzf E H1 C fs := fun d H' n s' e => h d H' (s.free n) (s.trans s') e
theorem Rzf.at {E : XK} {H : Hp} {C : Addr} {fs : List (Str × V)} (h : Rzf E H C fs) {d : Addr} (n : H d = none) : E (.ref C) (some d) (upd H d (.xd fs)) :=
  h d _ n (fun b o e => by rw [upd_ne (ne_of_none e n)]; exact e) upd_same
section
variable {σ : L2.St} {H : Hp} {Q : XK} {C : Addr} {f g : Str} {ta : TA} {v y : V} {P : V → V → Prop}
theorem i_mkE2 (q : ta σ H fun vs H1 => ∃ v y, vs = [v, y] ∧ ∀ d, H1 d = none → Q (.ref C) (some d) (upd H1 d (.xd [(g, y), (f, v)]))) : tMkE2 C f g ta σ H Q := q
theorem i_ex2 (q : P v y) : ∃ a b, [v, y] = [a, b] ∧ P a b := ⟨v, y, rfl, q⟩
end
theorem GOK.mk {P : Program} {w : World} {K : PySem.W.Frag} {mg : Str → Option Value} {base : Heap} {x : Str} {st : Stmt} {N ps : List Str} {k : Nat} {sp : Sp} (D : DefIn K mg x st ps) (S : FnScope N ps (defScope st)) (len : ∀ vs H Q E, sp vs H Q E → vs.length = ps.length)
    (body : ∀ (f : Addr) (cdv : Value) (A : Around) (outer : List Env) (s : Shared) (H : Hp) (vs : List V) (Q : VK) (E : XK), A.guards = some [] → Room k (A.deeper (envOfC x (defScope st) s.heap.objs.size f cdv)) → sp vs H Q E →
      ∃ t, PSs (cxOf CX0 P w K mg base N x (defScope st) f cdv A outer s H E).nox (defBody st) t ∧ t { nx := fun _ H' => Q .non H', rt := Q } (start N vs) H) : GOK P w K mg base CX0 (k + 1) x ps sp := by
  obtain ⟨f, fd, F, hm, hb⟩ := D
  refine ⟨f, fd, gok_mk F S len fun cdv A outer s H vs Q E hg hr h => ?_, hm, F.kp, hb⟩
  obtain ⟨t, z, e⟩ := body f cdv A outer s H vs Q E hg hr h
  exact ⟨t, z.nox, e⟩
end Fg
namespace Fg
open PySem PySem.Spec PyProof.Rows L2
abbrev dS (l : List Nat) : PyData := .str ⟨l.toArray⟩
mutual
inductive At (H : Hp) : V → PyData → Prop
  | non : At H .non .none
  | bl (b : Bool) : At H (.bl b) (.bool b)
  | int (i : Int) : At H (.int i) (.int i)
  | str (l : List Nat) : l.length ≤ 10000 → At H (S l) (dS l)
  | lst {a : Addr} {xs : List V} {ds : List PyData} : H a = some (.lst xs) → xs.length ≤ 10000 → AtAll H xs ds → At H (.ref a) (.list ds)
  | tup {a : Addr} {xs : List V} {ds : List PyData} : H a = some (.tup xs) → xs.length ≤ 10000 → AtAll H xs ds → At H (.ref a) (.tuple ds)
  | dct {a : Addr} : H a = some (.dK []) → At H (.ref a) (.dict [])
inductive AtAll (H : Hp) : List V → List PyData → Prop
  | nil : AtAll H [] []
  | cons {v : V} {vs : List V} {d : PyData} {ds : List PyData} : At H v d → AtAll H vs ds → AtAll H (v :: vs) (d :: ds)
end
section
variable {H H' : Hp}
mutual
theorem At.mono (s : Same H H') : ∀ (d : PyData) (v : V), At H v d → At H' v d
  | .none, _, h => by cases h; exact .non
  | .bool b, _, h => by cases h; exact .bl b
  | .int i, _, h => by cases h; exact .int i
  | .str x, _, h => by
    cases h with
    | str l hl => exact .str l hl
  | .list ds, _, h => by
    cases h with
    | lst e l a => exact .lst (s _ _ e) l (AtAll.mono s ds _ a)
  | .tuple ds, _, h => by
    cases h with
    | tup e l a => exact .tup (s _ _ e) l (AtAll.mono s ds _ a)
  | .dict kvs, _, h => by
    cases h with
    | dct e => exact .dct (s _ _ e)
theorem AtAll.mono (s : Same H H') : ∀ (ds : List PyData) (vs : List V), AtAll H vs ds → AtAll H' vs ds
  | [], _, h => by cases h; exact .nil
  | d :: ds, _, h => by
    cases h with
    | cons h1 h2 => exact .cons (At.mono s d _ h1) (AtAll.mono s ds _ h2)
end
theorem At.same {v : V} {d : PyData} (h : At H v d) (s : Same H H') : At H' v d := At.mono s d v h
theorem AtAll.same {vs : List V} {ds : List PyData} (h : AtAll H vs ds) (s : Same H H') : AtAll H' vs ds := AtAll.mono s ds vs h
mutual
theorem At.dp (K : PySem.W.Frag) : ∀ (d : PyData) (v : V), At H v d → d.hasDict = false → Dp K H v d
  | .none, _, h, _ => by cases h; exact .non
  | .bool b, _, h, _ => by cases h; exact .bl b
  | .int i, _, h, _ => by cases h; exact .int i
  | .str x, _, h, _ => by cases h; exact .str _
  | .list ds, _, h, n => by
    cases h with
    | lst e l a => exact .lst (.inl (.inl e)) (AtAll.dp K ds _ a n)
  | .tuple ds, _, h, n => by
    cases h with
    | tup e l a => exact .tup (.inl (.inl e)) (AtAll.dp K ds _ a n)
  | .dict kvs, _, h, n => by cases n
theorem AtAll.dp (K : PySem.W.Frag) : ∀ (ds : List PyData) (vs : List V), AtAll H vs ds → PyData.hasDictAll ds = false → DpAll K H vs ds
  | [], _, h, _ => by cases h; exact .nil
  | d :: ds, _, h, n => by
    cases h with
    | cons h1 h2 =>
      have n' : (d.hasDict || PyData.hasDictAll ds) = false := n
      rw [Bool.or_eq_false_iff] at n'
      exact .cons (At.dp K d _ h1 n'.1) (AtAll.dp K ds _ h2 n'.2)
end
theorem AtAll.len : ∀ {vs : List V} {ds : List PyData}, AtAll H vs ds → vs.length = ds.length
  | _, _, .nil => rfl
  | _, _, .cons _ r => congrArg Nat.succ r.len
theorem AtAll.get : ∀ {vs : List V} {ds : List PyData}, AtAll H vs ds → ∀ {i : Nat} {v : V}, vs[i]? = some v → ∃ d, ds[i]? = some d ∧ At H v d
  | _, _, .nil, _, _, e => by simp at e
  | _, _, .cons h r, 0, _, e => by
    cases (show some _ = some _ from e)
    exact ⟨_, rfl, h⟩
  | _, _, .cons h r, i + 1, v, e => r.get (i := i) e
theorem AtAll.at : ∀ {vs : List V} {ds : List PyData}, AtAll H vs ds → ∀ {i : Nat} {d : PyData}, ds[i]? = some d → ∃ v, vs[i]? = some v ∧ At H v d
  | _, _, .nil, _, _, e => by simp at e
  | _, _, .cons h r, 0, _, e => by
    cases (show some _ = some _ from e)
    exact ⟨_, rfl, h⟩
  | _, _, .cons h r, i + 1, v, e => r.at (i := i) e
theorem AtAll.app : ∀ {vs ws : List V} {ds es : List PyData}, AtAll H vs ds → AtAll H ws es → AtAll H (vs ++ ws) (ds ++ es)
  | _, _, _, _, .nil, r => r
  | _, _, _, _, .cons h t, r => .cons h (t.app r)
theorem AtAll.one {v : V} {d : PyData} (h : At H v d) : AtAll H [v] [d] := .cons h .nil
theorem AtAll.take : ∀ {vs : List V} {ds : List PyData}, AtAll H vs ds → ∀ (n : Nat), AtAll H (vs.take n) (ds.take n)
  | _, _, .nil, n => by simp; exact .nil
  | _, _, .cons h r, 0 => .nil
  | _, _, .cons h r, n + 1 => .cons h (r.take n)
theorem AtAll.drop : ∀ {vs : List V} {ds : List PyData}, AtAll H vs ds → ∀ (n : Nat), AtAll H (vs.drop n) (ds.drop n)
  | _, _, .nil, n => by simp; exact .nil
  | _, _, .cons h r, 0 => .cons h r
  | _, _, .cons h r, n + 1 => r.drop n
theorem AtAll.map {α : Type} {f : α → V} {g : α → PyData} (h : ∀ x, At H (f x) (g x)) : ∀ l : List α, AtAll H (l.map f) (l.map g)
  | [] => .nil
  | x :: r => .cons (h x) (AtAll.map h r)
theorem AtAll.rep {v : V} {d : PyData} (h : At H v d) : ∀ n : Nat, AtAll H (List.replicate n v) (List.replicate n d)
  | 0 => .nil
  | n + 1 => .cons h (AtAll.rep h n)
end
structure Ext (A G A' G' : Hp) : Prop where
  aa : Same A A'
  ag : Same A' G'
  gg : Same G G'
  nw : ∀ b, A b = none → A' b ≠ none → G b = none
section
variable {A G A1 G1 A2 G2 H : Hp} {p : Addr} {o o' : HO} {v : V} {d : PyData}
theorem Ext.refl (s : Same A G) : Ext A G A G := ⟨fun _ _ e => e, s, fun _ _ e => e, fun b h1 h2 => absurd h1 h2⟩
theorem Ext.trans (x : Ext A G A1 G1) (y : Ext A1 G1 A2 G2) : Ext A G A2 G2 := by
  refine ⟨x.aa.trans y.aa, y.ag, x.gg.trans y.gg, fun b h1 h2 => ?_⟩
  by_cases h : A1 b = none
  · exact x.gg.free (y.nw b h h2)
  · exact x.nw b h1 h
/-- something new, known -/
theorem Ext.new (x : Ext A G A1 G1) (n : G1 p = none) : Ext A G (upd A1 p o) (upd G1 p o) := by
  have na : A1 p = none := x.ag.free n
  refine ⟨Same.upd x.aa (x.gg.trans (fun _ _ e => e) |>.free n |> fun z => ?_), fun b u e => ?_, Same.upd x.gg (x.gg.free n), fun b h1 h2 => ?_⟩
  · by_cases h : A p = none
    · exact h
    · exact absurd na (by
        intro z
        cases e : A p with
        | none => exact h e
        | some u => rw [x.aa _ _ e] at z; cases z)
  · by_cases hb : b = p
    · rw [hb, upd_same] at e
      rw [hb, upd_same]; exact e
    · rw [upd_ne hb] at e
      rw [upd_ne hb]; exact x.ag _ _ e
  · by_cases hb : b = p
    · rw [hb]; exact x.gg.free n
    · rw [upd_ne hb] at h2
      exact x.nw b h1 h2
/-- something new, hidden -/
theorem Ext.hid (x : Ext A G A1 G1) (n : G1 p = none) : Ext A G A1 (upd G1 p o) :=
  ⟨x.aa, x.ag.trans (same_upd n), x.gg.trans (same_upd n), x.nw⟩
/-- what is hidden, and was not there at first, changes -/
theorem Ext.put (x : Ext A G A1 G1) (n : G p = none) (na : A1 p = none) : Ext A G A1 (upd G1 p o) :=
  ⟨x.aa, fun b u e => by rw [upd_ne (ne_of_none e na)]; exact x.ag _ _ e, Same.upd x.gg n, x.nw⟩
/-- what was hidden is known -/
theorem Ext.show (x : Ext A G A1 G1) (n : G p = none) (sa : Same A G) (e : G1 p = some o) : Ext A G (upd A1 p o) G1 := by
  have na : A p = none := sa.free n
  refine ⟨Same.upd x.aa na, fun b u e1 => ?_, x.gg, fun b h1 h2 => ?_⟩
  · by_cases hb : b = p
    · rw [hb, upd_same] at e1
      rw [hb, e]; exact e1
    · rw [upd_ne hb] at e1
      exact x.ag _ _ e1
  · by_cases hb : b = p
    · rw [hb]; exact n
    · rw [upd_ne hb] at h2
      exact x.nw b h1 h2
/-- what is hidden stays hidden -/
theorem Ext.free (x : Ext A G A1 G1) (n : A p = none) (e : G p ≠ none) : A1 p = none := by
  by_cases h : A1 p = none
  · exact h
  · exact absurd (x.nw p n h) e
theorem Ext.up (x : Ext A G A1 G1) (h : At A1 v d) : At G1 v d := h.same x.ag
theorem Ext.old (x : Ext A G A1 G1) (h : At A v d) : At A1 v d := h.same x.aa
end
section
variable {K : PySem.W.Frag} {σ : L2.St} {A G : Hp} {Q : VK} {te tl : TE} {tt : TT} {ta : TA} {j : Nat} {a : Addr} {xs : List V} {vs : List Nat}
/-- behind i turns: the list at Dl, hidden, holds data -/
def Cw (A G : Hp) (Dl : Addr) (f : Nat → PyData) (i : Nat) (G1 : Hp) : Prop := G Dl = none ∧ ∃ A1 l, Ext A G A1 G1 ∧ A1 Dl = none ∧ G1 Dl = some (.lst l) ∧ AtAll A1 l ((List.range i).map f)
theorem cw_start (s : Same A G) {Dl : Addr} {f : Nat → PyData} (n : G Dl = none) : Cw A G Dl f 0 (upd G Dl (.lst [])) :=
  ⟨n, A, [], (Ext.refl s).hid n, s.free n, upd_same, .nil⟩
theorem cw_turn {Dl : Addr} {f : Nat → PyData} {i : Nat} {G1 : Hp} {σ2 : L2.St} (w : Cw A G Dl f i G1) (hi : i < 10000)
    (he : ∀ A1 G1, Ext A G A1 G1 → ∀ QV : VK, (∀ A2 G2 v, Ext A1 G1 A2 G2 → At A2 v (f i) → QV v G2) → te σ2 G1 QV) :
    tYes σ2 G1 fun b H3 => if b = true then te σ2 H3 fun y H4 => ∃ acc, H4 Dl = some (.lst acc) ∧ acc.length < sizeLine ∧ Cw A G Dl f (i + 1) (upd H4 Dl (.lst (acc ++ [y]))) else Cw A G Dl f (i + 1) H3 := by
  obtain ⟨n, A1, l, x, na, e, al⟩ := w
  refine i_yes ?_
  rw [if_pos rfl]
  refine he A1 G1 x _ fun A2 G2 v y hv => ?_
  have na2 : A2 Dl = none := y.free na (by rw [e]; simp)
  have ll : l.length = i := by rw [al.len]; simp
  refine ⟨l, y.gg _ _ e, Nat.lt_of_le_of_lt (Nat.le_of_eq ll) (Nat.lt_trans hi (by decide)), n, A2, l ++ [v], (x.trans y).put n na2, na2, upd_same, ?_⟩
  rw [List.range_succ, List.map_append]
  exact (al.same y.aa).app (.one hv)
theorem cw_end {Dl : Addr} {f : Nat → PyData} {n : Nat} {G1 : Hp} (w : Cw A G Dl f n G1) (sa : Same A G) (hn : n ≤ 10000) : ∃ A1, Ext A G A1 G1 ∧ At A1 (.ref Dl) (.list ((List.range n).map f)) ∧ ∃ l, G1 Dl = some (.lst l) ∧ A1 Dl = some (.lst l) ∧ AtAll A1 l ((List.range n).map f) ∧ l.length = n := by
  obtain ⟨h, A1, l, x, na, e, al⟩ := w
  have ll : l.length = n := by rw [al.len]; simp
  have al2 := al.same (same_upd (o := .lst l) na)
  exact ⟨_, x.show h sa e, .lst upd_same (by omega) al2, l, e, upd_same, al2, ll⟩
/-- [te for j in a list] -/
theorem c_lstD {ds : List PyData} (sa : Same A G) (ha : ∀ R : VK, R (.ref a) G → tl σ G R) (hx : SqL K G a xs) (hd : AtAll A xs ds) (hn : xs.length ≤ 10000) (f : PyData → PyData) (hw : ∀ x, wipe ((wipe σ vs).set j (some x)) vs = wipe σ vs)
    (he : ∀ x d A1 G1, d ∈ ds → At A1 x d → Ext A G A1 G1 → ∀ QV : VK, (∀ A2 G2 v, Ext A1 G1 A2 G2 → At A2 v (f d) → QV v G2) → te ((wipe σ vs).set j (some x)) G1 QV)
    (q : ∀ Dl A1 G1 l, Ext A G A1 G1 → G1 Dl = some (.lst l) → A1 Dl = some (.lst l) → AtAll A1 l (ds.map f) → l.length = ds.length → Q (.ref Dl) G1) : tLc (iAny K tl) (gName j) tYes te vs σ G Q := by
  have hl := hd.len
  have e1 : (List.range ds.length).map (fun i => f (ds.getD i .none)) = ds.map f := by
    refine List.ext_getElem? fun i => ?_
    rw [List.getElem?_map, List.getElem?_map]
    by_cases h : i < ds.length
    · rw [List.getElem?_range h, Option.map_some, List.getD_eq_getElem?_getD, List.getElem?_eq_getElem h]
      rfl
    · rw [List.getElem?_eq_none (by simpa using h), List.getElem?_eq_none (by omega)]
      rfl
  refine ha _ (.inl ⟨a, xs, rfl, hx, fun Dl nD => ?_⟩)
  refine lc_list (xs := xs) (Cw A G Dl fun i => f (ds.getD i .none)) (cw_start sa nD) (fun i H' hi p => ?_) (fun i x H' hi p => ?_) (fun H' p => ?_)
  · obtain ⟨_, _, _, x, _⟩ := p
    exact x.gg.seq hx
  · have hlt := (List.getElem?_eq_some_iff.mp hi).1
    obtain ⟨d, hd1, hd2⟩ := hd.get hi
    refine ⟨hw _, cw_turn p (by omega) fun A1 G1 y QV k => he x d A1 G1 (List.mem_of_getElem? hd1) (hd2.same y.aa) y QV fun A2 G2 v z hv => k A2 G2 v z ?_⟩
    rw [List.getD_eq_getElem?_getD, hd1]
    exact hv
  · rw [hl] at p
    obtain ⟨A1, y, _, l, e, ea, al, ll⟩ := cw_end p sa (by omega)
    rw [e1] at al
    exact q Dl A1 H' l y e ea al ll
/-- [te for j in a tuple] -/
theorem c_tupD {ds : List PyData} (sa : Same A G) (ha : ∀ R : VK, R (.ref a) G → tl σ G R) (hx : SqT K G a xs) (hd : AtAll A xs ds) (hn : xs.length ≤ 10000) (f : PyData → PyData) (hw : ∀ x, wipe ((wipe σ vs).set j (some x)) vs = wipe σ vs)
    (he : ∀ x d A1 G1, d ∈ ds → At A1 x d → Ext A G A1 G1 → ∀ QV : VK, (∀ A2 G2 v, Ext A1 G1 A2 G2 → At A2 v (f d) → QV v G2) → te ((wipe σ vs).set j (some x)) G1 QV)
    (q : ∀ Dl A1 G1 l, Ext A G A1 G1 → G1 Dl = some (.lst l) → A1 Dl = some (.lst l) → AtAll A1 l (ds.map f) → l.length = ds.length → Q (.ref Dl) G1) : tLc (iAny K tl) (gName j) tYes te vs σ G Q := by
  have hl := hd.len
  have e1 : (List.range ds.length).map (fun i => f (ds.getD i .none)) = ds.map f := by
    refine List.ext_getElem? fun i => ?_
    rw [List.getElem?_map, List.getElem?_map]
    by_cases h : i < ds.length
    · rw [List.getElem?_range h, Option.map_some, List.getD_eq_getElem?_getD, List.getElem?_eq_getElem h]
      rfl
    · rw [List.getElem?_eq_none (by simpa using h), List.getElem?_eq_none (by omega)]
      rfl
  refine ha _ (.inr (.inl ⟨a, xs, rfl, hx, fun Dl nD => ?_⟩))
  refine lc_tup (xs := xs) (Cw A G Dl fun i => f (ds.getD i .none)) (cw_start sa nD) (fun i H' hi p => ?_) (fun i x H' hi p => ?_) (fun H' p => ?_)
  · obtain ⟨_, _, _, x, _⟩ := p
    exact Same.tup x.gg hx
  · have hlt := (List.getElem?_eq_some_iff.mp hi).1
    obtain ⟨d, hd1, hd2⟩ := hd.get hi
    refine ⟨hw _, cw_turn p (by omega) fun A1 G1 y QV k => he x d A1 G1 (List.mem_of_getElem? hd1) (hd2.same y.aa) y QV fun A2 G2 v z hv => k A2 G2 v z ?_⟩
    rw [List.getD_eq_getElem?_getD, hd1]
    exact hv
  · rw [hl] at p
    obtain ⟨A1, y, _, l, e, ea, al, ll⟩ := cw_end p sa (by omega)
    rw [e1] at al
    exact q Dl A1 H' l y e ea al ll
end
section
variable {X : Cx} (K : PySem.W.Frag) {e o value : Expr} {es : List Expr} {te to tv : TE} {ta : TA} {f : Str} {p pos apos cpos tpos pos' : PySem.Pos}
theorem peFld (he : PE X e te) (h : X.K = K := by rfl) (hb : attributeBase e f X.env (eval e X.env) = eval e X.env := by rfl) : PE X (.Attribute e f pos) (tFld K te f) := h ▸ pe_fld he hb
theorem psFld (ho : PE X o to) (hv : PE X value tv) (h : X.K = K := by rfl) (hs : swapsWith value (some (.Attribute o f pos')) pos.line X.env = pure false := by rfl) : PS X (.Assign [.Attribute o f pos'] value pos) (sFld K to tv f) := h ▸ ps_fld ho hv hs
def rSplit : V → List V → Hp → VK → Prop := fun x xs H Q => ∃ a b, x = .str a ∧ xs = [.str b] ∧ (b.length == 0) = false ∧ a.length + 2 ≤ sizeLine ∧ rNewStrs (Txt.split a b) H Q
def tSpl (K : PySem.W.Frag) (to : TE) (t : TA) : TE := tBM K "str" rSplit to t
theorem cIsiT (h : X.K = K := by rfl) : CallR X (.builtin "isinstance") (rIsiT K) := h ▸ call_isiT
end
section
variable {K : PySem.W.Frag} {σ : L2.St} {H : Hp} {Q : VK} {Qs : L2.St → Hp → Prop} {D : Ends} {te to tv : TE} {ta : TA} {a C dx : Addr} {fs : List (Str × V)} {f m : Str} {v y : V} {xs : List V} {sp : Sp} {dvs : List V} {E : XK} {z w : Int}
theorem i_fld {P : V → Prop} (h : H a = some (.ins C dx fs)) (c : Cls K C) (n : NoAttr K C f) (l : fs.lookup f = some v) (q : P v) : ∃ a' C dx fs v, V.ref a = .ref a' ∧ H a' = some (.ins C dx fs) ∧ Cls K C ∧ NoAttr K C f ∧ fs.lookup f = some v ∧ P v :=
  ⟨a, C, dx, fs, v, rfl, h, c, n, l, q⟩
theorem i_tfld (q : te σ H fun x H1 => ∃ a C dx fs v, x = .ref a ∧ H1 a = some (.ins C dx fs) ∧ Cls K C ∧ NoAttr K C f ∧ fs.lookup f = some v ∧ Q v H1) : tFld K te f σ H Q := q
theorem i_sfld (q : tv σ H fun y H1 => to σ H1 fun x H2 => ∃ a C dx fs, x = .ref a ∧ H2 a = some (.ins C dx fs) ∧ Cls K C ∧ NoAttr K C f ∧ fs.length < 1000 ∧ D.nx σ (upd H2 a (.ins C dx (putF f y fs)))) : sFld K to tv f D σ H := q
theorem i_put {P : Addr → Addr → Addr → List (Str × V) → Prop} (h : H a = some (.ins C dx fs)) (c : Cls K C) (n : NoAttr K C f) (l : fs.length < 1000) (q : P a C dx fs) :
    ∃ a' C dx fs, V.ref a = .ref a' ∧ H a' = some (.ins C dx fs) ∧ Cls K C ∧ NoAttr K C f ∧ fs.length < 1000 ∧ P a' C dx fs := ⟨a, C, dx, fs, rfl, h, c, n, l, q⟩
theorem i_meth (q : to σ H fun x H1 => ∃ a dx fs, x = .ref a ∧ H1 a = some (.ins C dx fs) ∧ fs.lookup m = none ∧ ta σ H1 fun vs H2 => sp (x :: (vs ++ dvs)) H2 Q E) : tMeth C m sp dvs E to ta σ H Q := q
theorem i_make (q : ta σ H fun vs H1 => ∀ x dx, H1 x = none → H1 dx = none → dx ≠ x → sp (.ref x :: (vs ++ dvs)) (upd (upd H1 dx (.own x)) x (.ins C dx [])) (fun v H2 => v = .non ∧ Q (.ref x) H2) E) : tMake C sp dvs E ta σ H Q := q
theorem i_spl (q : to σ H fun x H1 => tyV K "str" x H1 ∧ ta σ H1 fun xs H2 => rSplit x xs H2 Q) : tSpl K to ta σ H Q := q
/-- the kind of a datum -/
def kindD : PyData → String
  | .none => "NoneType" | .bool _ => "bool" | .int _ => "int" | .str _ => "str" | .list _ => "list" | .tuple _ => "tuple" | .dict _ => "dict"
theorem At.ty {d : PyData} (K : PySem.W.Frag) (h : At H v d) : TyX K H v (.type (kindD d)) := by
  cases h with
  | non => exact .base .non
  | bl b => exact .base (.bl b)
  | int i => exact .base (.int i)
  | str l _ => exact .base (.str _)
  | lst e _ _ => exact .base (.lst e)
  | tup e _ _ => exact .base (.tup e)
  | dct e => exact .base (.dK e)
theorem i_isiD {d : PyData} {t : String} {b : Bool} (h : At H v d) (e : PySem.W.kitOne K (.type (kindD d)) (.type t) = some b) (q : Q (.bl b) H) : rIsi K [v, .ty t] H Q := ⟨_, _, _, _, b, rfl, .ty _, h.ty K, e, q⟩
theorem i_isiT2 {d : PyData} {t u : String} {b : Bool} {tp : Addr} (h : At H v d) (ht : H tp = some (.tup [.ty t, .ty u])) (e : PySem.W.kitAny K (.type (kindD d)) [.type t, .type u] = some b) (q : Q (.bl b) H) : rIsiT K [v, .ref tp] H Q :=
  ⟨v, tp, _, _, _, b, rfl, ht, .cons (.ty _) (.cons (.ty _) .nil), h.ty K, e, q⟩
end
theorem OK.never {P : Program} {w : World} {K : PySem.W.Frag} {mg : Str → Option Value} {base : Heap} {CX : CXT} {k : Nat} {x : Str} {st : Stmt} {ps : List Str} {dvs : List V} (D : DefD K mg x st ps dvs) : OK P w K mg base CX k x ps fun _ _ _ _ => False := by
  obtain ⟨f, fd, F, hm, hb, _⟩ := D
  exact ⟨f, fd, ⟨fun _ _ _ _ h => h.elim, fun _ _ _ _ _ _ _ _ _ _ _ _ _ h => h.elim⟩, hm, F.kp, hb⟩
theorem depth_mem : ∀ {ds : List PyData} {d : PyData}, d ∈ ds → d.depth ≤ PyData.depthAll ds
  | e :: r, d, h => by
    show d.depth ≤ max e.depth (PyData.depthAll r)
    rcases List.mem_cons.mp h with rfl | h
    · exact Nat.le_max_left _ _
    · exact Nat.le_trans (depth_mem h) (Nat.le_max_right _ _)
/-- lists as tuples, at all depths -/
def deepD : PyData → PyData
  | .list ds => .tuple (deepDs ds)
  | .tuple ds => .tuple (deepDs ds)
  | d => d
where deepDs : List PyData → List PyData
  | [] => []
  | d :: r => deepD d :: deepDs r
theorem deepDs_map : ∀ ds : List PyData, deepD.deepDs ds = ds.map deepD
  | [] => rfl
  | d :: r => by rw [List.map_cons, ← deepDs_map r]; rfl
def isSeqD : PyData → Bool
  | .list _ => true | .tuple _ => true | _ => false
def isTupD : PyData → Bool
  | .tuple _ => true | _ => false
def isStrD : PyData → Bool
  | .str _ => true | _ => false
def isIntD : PyData → Bool
  | .int _ => true | .bool _ => true | _ => false
def isBoolD : PyData → Bool
  | .bool _ => true | _ => false
section
variable {K : PySem.W.Frag} {H : Hp} {Q : VK} {v : V} {d : PyData} {tp : Addr}
theorem i_isiSeq (b : Bool) (h : At H v d) (ht : H tp = some (.tup [.ty "list", .ty "tuple"])) (e : isSeqD d = b) (q : Q (.bl b) H) : rIsiT K [v, .ref tp] H Q := by
  subst e
  refine i_isiT2 h ht ?_ q
  cases d <;> simp only [kindD, isSeqD] <;> first
    | exact kitAny_cons (b := true) (kit_ty (by decide +kernel)) (fun z => nomatch z) (fun _ => rfl)
    | exact kitAny_cons (b := false) (kit_ty (by decide +kernel)) (fun _ => kitAny_cons (b := true) (kit_ty (by decide +kernel)) (fun z => nomatch z) (fun _ => rfl)) (fun z => nomatch z)
    | exact kitAny_cons (b := false) (kit_ty (by decide +kernel)) (fun _ => kitAny_cons (b := false) (kit_ty (by decide +kernel)) (fun _ => rfl) (fun z => nomatch z)) (fun z => nomatch z)
theorem i_isiTup (b : Bool) (h : At H v d) (e : isTupD d = b) (q : Q (.bl b) H) : rIsi K [v, .ty "tuple"] H Q := by
  subst e
  refine i_isiD h (kit_ty ?_) q
  cases d <;> (simp only [kindD, isTupD] ; decide +kernel)
theorem i_isiStr (b : Bool) (h : At H v d) (e : isStrD d = b) (q : Q (.bl b) H) : rIsi K [v, .ty "str"] H Q := by
  subst e
  refine i_isiD h (kit_ty ?_) q
  cases d <;> (simp only [kindD, isStrD] ; decide +kernel)
theorem i_isiInt (b : Bool) (h : At H v d) (e : isIntD d = b) (q : Q (.bl b) H) : rIsi K [v, .ty "int"] H Q := by
  subst e
  refine i_isiD h (kit_ty ?_) q
  cases d <;> (simp only [kindD, isIntD] ; decide +kernel)
theorem i_isiBool (b : Bool) (h : At H v d) (e : isBoolD d = b) (q : Q (.bl b) H) : rIsi K [v, .ty "bool"] H Q := by
  subst e
  refine i_isiD h (kit_ty ?_) q
  cases d <;> (simp only [kindD, isBoolD] ; decide +kernel)
theorem At.tupled {ds : List PyData} (h : At H v (.tuple ds)) : ∃ a xs, v = .ref a ∧ H a = some (.tup xs) ∧ xs.length ≤ 10000 ∧ AtAll H xs ds := by
  cases h with
  | tup e l a => exact ⟨_, _, rfl, e, l, a⟩
theorem At.listed {ds : List PyData} (h : At H v (.list ds)) : ∃ a xs, v = .ref a ∧ H a = some (.lst xs) ∧ xs.length ≤ 10000 ∧ AtAll H xs ds := by
  cases h with
  | lst e l a => exact ⟨_, _, rfl, e, l, a⟩
theorem At.strl {x : Str} (h : At H v (.str x)) : ∃ l : List Nat, v = S l ∧ x = ⟨l.toArray⟩ ∧ l.length ≤ 10000 := by
  cases h with
  | str l hl => exact ⟨l, rfl, rfl, hl⟩
theorem At.intd {i : Int} (h : At H v (.int i)) : v = .int i := by
  cases h; rfl
theorem At.mkTup {a : Addr} {xs : List V} {ds : List PyData} (e : H a = some (.tup xs)) (h : AtAll H xs ds) (l : ds.length ≤ 10000) : At H (.ref a) (.tuple ds) := .tup e (by rw [h.len]; exact l) h
theorem At.mkLst {a : Addr} {xs : List V} {ds : List PyData} (e : H a = some (.lst xs)) (h : AtAll H xs ds) (l : ds.length ≤ 10000) : At H (.ref a) (.list ds) := .lst e (by rw [h.len]; exact l) h
end
section
variable {K : PySem.W.Frag} {σ : L2.St} {H : Hp} {D : Ends} {te : TE} {tb : TS} {g : TG} {a : Addr} {xs : List V} {z : List Nat}
theorem i_forS {A B : Prop} (Pv : Nat → L2.St → Hp → Prop) (h0 : Pv 0 σ H)
    (hs : ∀ i c σ' H', z[i]? = some c → Pv i σ' H' → g (S [c]) σ' H' fun σ2 H2 => tb { D with nx := Pv (i + 1), ct := Pv (i + 1), bk := D.nx } σ2 H2) (hd : ∀ σ' H', Pv z.length σ' H' → D.nx σ' H') :
    A ∨ B ∨ ∃ z', S z = .str z' ∧ LoopG g tb D σ (Its z') H := by
  have e : (⟨z.toArray⟩ : Str).cps.size = z.length := str_len z
  refine .inr (.inr ⟨_, rfl, for_it walk_str Pv h0 (fun _ _ _ _ _ => True.intro) (fun i x σ' H' H2 hi p y => ?_) (by rw [e]; exact hd)⟩)
  obtain ⟨rfl, c, hc, rfl⟩ := y
  exact hs i c σ' _ (by simpa using hc) p
theorem i_forT {A B : Prop} (hx : SqT K H a xs) (Pv : Nat → L2.St → Hp → Prop) (h0 : Pv 0 σ H) (hl : ∀ i σ' H', i ≤ xs.length → Pv i σ' H' → SqT K H' a xs)
    (hs : ∀ i x σ' H', xs[i]? = some x → Pv i σ' H' → g x σ' H' fun σ2 H2 => tb { D with nx := Pv (i + 1), ct := Pv (i + 1), bk := D.nx } σ2 H2) (hd : ∀ σ' H', Pv xs.length σ' H' → D.nx σ' H') :
    A ∨ (∃ a' xs', V.ref a = .ref a' ∧ SqT K H a' xs' ∧ LoopG g tb D σ (Itt K a') H) ∨ B := .inr (.inl ⟨a, xs, rfl, hx, for_tup Pv h0 hl hs hd⟩)
end
section
variable {σ : L2.St} {H : Hp} {Q : VK} {E : XK} {tl : TA} {x y z u : V} {p1 : P1} {p2 : P2} {p3 : P3} {p4 : P4}
theorem i_callD {sp : Sp} {dvs : List V} (q : tl σ H fun vs H1 => sp (vs ++ dvs) H1 Q E) : tCall sp dvs E tl σ H Q := q
theorem i_spD2 (q : p2 x y H Q E) : sp2 p2 ([x] ++ [y]) H Q E := ⟨x, y, rfl, q⟩
theorem i_spM1 (q : p1 x H Q E) : sp1 p1 (x :: ([] ++ [])) H Q E := ⟨x, rfl, q⟩
theorem i_spM2 (q : p2 x y H Q E) : sp2 p2 (x :: ([y] ++ [])) H Q E := ⟨x, y, rfl, q⟩
theorem i_spM3 (q : p3 x y z H Q E) : sp3 p3 (x :: ([y, z] ++ [])) H Q E := ⟨x, y, z, rfl, q⟩
theorem i_spM4 (q : p4 x y z u H Q E) : sp4 p4 (x :: ([y, z, u] ++ [])) H Q E := ⟨x, y, z, u, rfl, q⟩
theorem i_spM3d (q : p3 x y z H Q E) : sp3 p3 (x :: ([y] ++ [z])) H Q E := ⟨x, y, z, rfl, q⟩
end
end Fg
namespace Fg
open PySem PySem.Spec PyProof.Rows L2
open AutoSeq1 (wpAny_loadPart')
theorem meets_enumT (l : Addr) (items : Array Value) (n : Nat) (dct : Option Addr) (sl : Array (Option Value)) :
    Meets (Builtin.«enumerate.__new__» ⟨[.type "enumerate", .ref l], []⟩) (fun _ R s => s.heap.get? l = some { cls := .type "tuple", dict := dct, data := .seq items n, slots := sl } ∧
      R (.ok (.ret (.ref (s.heap.push { cls := .type "tuple_iterator", data := .fields #[.ref l, .int 0 0] }).objs.size)))
        { s with heap := (s.heap.push { cls := .type "tuple_iterator", data := .fields #[.ref l, .int 0 0] }).push { cls := .type "enumerate", data := .fields #[.none, .bool false, .ref s.heap.objs.size, rawInt 0, .none, .none] } }) :=
  .of_wp fun prog w A R s h => by
    obtain ⟨hp, g, d, tk, os⟩ := s; obtain ⟨hl, h⟩ := h
    have hsub := sub_enumerate
    have hL : Heap.IsTuple (Shared.heap ⟨hp, g, d, tk, os⟩) l items := ⟨_, hl, rfl, n, rfl⟩
    wp_walk using wpAny_loadPart' hl
    refine wpAny_stack_any fun st => wpAny_pure ?_
    split
    · rename_i c _ _ _ _ _
      cases (c == Value.type "enumerate")
      · wp_walk using wpAny_loadPart' hl, wpAny_pyIter_tuple hL
        exact ⟨_, rfl, h⟩
      · wp_walk using wpAny_loadPart' hl, wpAny_pyIter_tuple hL
        exact ⟨_, rfl, h⟩
    · wp_walk using wpAny_loadPart' hl, wpAny_pyIter_tuple hL
      exact ⟨_, rfl, h⟩
section
variable {prog : Program} {w : World} {A : Around} {E : Value → Shared → Prop} {s : Shared}
theorem call_enumT {l : Addr} {items : Array Value} {Q : Value → Shared → Prop} (hL : s.heap.IsTuple l items)
    (h : ∀ h', IsEnum h' (s.heap.objs.size + 1) s.heap.objs.size 0 .none → h'.IsTupleIter s.heap.objs.size l 0 → h'.objs.size = s.heap.objs.size + 2 →
      (∀ b o, s.heap.get? b = some o → h'.get? b = some o) → Q (.ref (s.heap.objs.size + 1)) { s with heap := h' }) :
    wpAny (model prog w) A (call (.type "enumerate") [.ref l]) Q E s := by
  obtain ⟨⟨c, dct, dt, sl⟩, hl, hc, n, hd⟩ := hL
  replace hc : c = .type "tuple" := hc
  replace hd : dt = .seq items n := hd
  subst hc hd
  refine callType_new F.called_enumerate (by decide) (F.typeCall_enumerate_1 _) (F.newCall_enumerate_1 _) (fun obj => F.args_object_init_2 obj _) F.entry_enumerate_new
    (meets_enumT l items n dct sl) ⟨hl, ?_⟩
  have hz : (s.heap.push { cls := .type "tuple_iterator", data := .fields #[.ref l, .int 0 0] }).objs.size = s.heap.objs.size + 1 := Heap.size_push ..
  show _ ∧ _
  rw [hz]
  have he : IsEnum ((s.heap.push { cls := .type "tuple_iterator", data := .fields #[.ref l, .int 0 0] }).push
      { cls := .type "enumerate", data := .fields #[.none, .bool false, .ref s.heap.objs.size, rawInt 0, .none, .none] }) (s.heap.objs.size + 1) s.heap.objs.size 0 .none := by
    have := Heap.get?_push_size (s.heap.push { cls := .type "tuple_iterator", data := .fields #[.ref l, .int 0 0] })
      (o := { cls := .type "enumerate", data := .fields #[.none, .bool false, .ref s.heap.objs.size, rawInt 0, .none, .none] }) rfl
    rw [hz] at this; exact this
  refine ⟨⟨_, he, rfl⟩, h _ he ⟨_, Heap.get?_push_of_some _ (Heap.get?_push_size _ rfl), rfl, rfl⟩ (by rw [Heap.size_push, hz]) fun b o x => Heap.get?_push_of_some _ (Heap.get?_push_of_some _ x)⟩
end
/-- the tuple at a, each item in a new pair with its place -/
def Itet (K : PySem.W.Frag) (a : Addr) : It :=
  ⟨fun i H => ∃ (xs : List V) (x : V), SqT K H a xs ∧ xs[i]? = some x, fun i H v H' => ∃ T x, v = .ref T ∧ H T = none ∧ H' = upd H T (.tup [.int (i : Nat), x]) ∧ ∀ xs, SqT K H a xs → xs[i]? = some x, fun i H => ∃ xs : List V, SqT K H a xs ∧ i = xs.length⟩
theorem turn_enumT {P : Program} {w : World} {K : PySem.W.Frag} {elts : List Expr} {kk : Nat} {tpos : PySem.Pos} (a e it : Addr) :
    Turn P w K (.Tuple elts kk tpos) (Itet K a) [e, it] e (fun i h => (∃ old, IsEnum h e it ((i : Nat) : Int) old) ∧ h.IsTupleIter it a i ∧ e ≠ it) where
  mem := by simp
  obj := fun i h st b hb => by
    obtain ⟨⟨old, he⟩, ⟨o, ho, hc, hd⟩, _⟩ := st
    have e' : b = e ∨ b = it := by simpa using hb
    rcases e' with z | z
    · rw [z]; exact ⟨_, he, fun v q => nomatch q⟩
    · rw [z]; exact ⟨o, ho, fun v q => by rw [hd] at q; cases q⟩
  keep := fun i h h' st k => let ⟨⟨old, he⟩, hi, hne⟩ := st; ⟨⟨old, k e (by simp) _ he⟩, hi.at fun o q => k it (by simp) o q, hne⟩
  item := by
    intro X hP hw hK hc i pins s σ H E I hf st hg
    subst hP hw hK
    obtain ⟨⟨old, he⟩, hit, hne⟩ := st
    obtain ⟨xs, x, hq, hx⟩ := hg
    obtain ⟨its, rv, p, hz⟩ := I.tuple hq
    have pt : s.heap.IsTuple a its.toArray := p
    obtain ⟨u, hu, ru⟩ := rv.get hx
    have hel : e < s.heap.objs.size := Heap.lt_size he
    have hil : it < s.heap.objs.size := by obtain ⟨_, q, _⟩ := hit; exact Heap.lt_size q
    have hai : a ≠ it := fun z => by
      obtain ⟨o1, q1, c1, _⟩ := hit
      obtain ⟨o2, q2, c2, _⟩ := pt
      rw [z, q1] at q2
      cases q2
      rw [c1] at c2
      exact absurd c2 (by simp)
    have hae : e ≠ a := fun z => by
      obtain ⟨o2, q2, c2, _⟩ := pt
      rw [← z] at q2
      have q1 : s.heap.get? e = some _ := he
      rw [q1] at q2
      cases q2
      exact absurd c2 (by simp)
    have hsz : its.toArray.size = xs.length := by rw [List.size_toArray]; exact rv.length.symm
    have D := Draws.tuple (prog := X.prog) (w := X.w) (A := X.A.in1) (I.ok.hd hc) it a hai its.toArray
    refine wpAny_pyNext_enum_itemC D he ⟨hit, pt⟩ (by rw [hsz]; exact (List.getElem?_eq_some_iff.mp hx).1) hne (by simp [hne, hae]) fun y h' tk hy ho hS' hT hsz2 hk => ?_
    have yu : y = u := by
      have e1 : its.toArray[i]? = some u := by simpa using hu
      rw [e1] at hy
      exact (Option.some.inj hy).symm
    subst yu
    refine ⟨_, rfl, wpAny_letOwnedTupleGo_enum (s := { s with heap := h', toks := tk + 1 }) ho fun h2 he2 sb => ?_⟩
    have T2 : h2.get? s.heap.objs.size = some { cls := .type "tuple", data := .seq #[.int i tk, y] } := (sb.2 _ (Nat.ne_of_gt hel)).trans hT
    have new : ObjOk X.prog X.w (upd H s.heap.objs.size (.tup [.int (i : Nat), x])) h2 s.heap.objs.size (.tup [.int (i : Nat), x]) :=
      ⟨by show 2 ≤ sizeLine; decide, [.int i tk, y], .cons ⟨_, rfl⟩ (.cons ru .nil), ⟨_, T2, rfl, _, rfl⟩⟩
    have J : Inv X pins σ (upd H s.heap.objs.size (.tup [.int (i : Nat), x])) { s with heap := h2, toks := tk + 1 } :=
      I.turnedNew (ch := [e, it]) (fun b ob hb q => (sb.2 b (fun z => hb (by simp [z]))).trans (hk b ob (fun z => hb (by simp [z])) (fun z => hb (by simp [z])) q)) hf (Nat.le_refl _) new
    refine ⟨.ref s.heap.objs.size, _, J, rfl, ⟨_, x, rfl, I.hok.fresh (Nat.le_refl _), rfl, fun ys hy => by rw [I.tuple_inj hy hq]; exact hx⟩, ⟨⟨y, ?_⟩, ?_, hne⟩, fun b hb => ?_⟩
    · have e1 : ((i + 1 : Nat) : Int) = (i : Int) + 1 := by omega
      rw [e1]; exact he2
    · exact hS'.1.at fun o q => (sb.2 it (Ne.symm hne)).trans q
    · have hb' : b < s.heap.objs.size := by
        have e' : b = e ∨ b = it := by simpa using hb
        rcases e' with z | z
        · rw [z]; exact hel
        · rw [z]; exact hil
      rw [upd_ne (Nat.ne_of_lt hb')]
      exact (hf b hb).1
  done := by
    intro X hP hw hK hc i pins s σ H E I hf st hg
    subst hP hw hK
    obtain ⟨⟨old, he⟩, hit, hne⟩ := st
    obtain ⟨xs, hq, hx⟩ := hg
    obtain ⟨its, rv, p, hz⟩ := I.tuple hq
    have pt : s.heap.IsTuple a its.toArray := p
    have hai : a ≠ it := fun z => by
      obtain ⟨o1, q1, c1, _⟩ := hit
      obtain ⟨o2, q2, c2, _⟩ := pt
      rw [z, q1] at q2
      cases q2
      rw [c1] at c2
      exact absurd c2 (by simp)
    obtain ⟨f0, f1, f2, f3, f4, f5⟩ := hf it (by simp)
    have hsz : its.toArray.size = i := by rw [List.size_toArray, hx]; exact rv.length.symm
    have D := Draws.tuple (prog := X.prog) (w := X.w) (A := X.A.in1) (I.ok.hd hc) it a hai its.toArray
    exact wpAny_pyNext_enum_endD D he ⟨hsz ▸ hit, pt⟩ fun h' eb => ⟨rfl, I.turned (t' := s.toks) (fun b o hb q => eb b o hb q) f0 f1 f3 f4 f5⟩
  self := fun A i s Q E st h => let ⟨⟨_, he⟩, _⟩ := st; wpAny_pyIter_enum he h
def iEnumT (K : PySem.W.Frag) (ta : TA) : TI := fun σ H R => ta σ H fun vs H1 => ∃ a xs, vs = [.ref a] ∧ SqT K H1 a xs ∧ R (Itet K a) H1
theorem pi_enumT {X : Cx} {e : Expr} {ta : TA} {p pos tpos : PySem.Pos} {elts : List Expr} {kk : Nat} (hg : Gl X "enumerate") (hm : X.mg "enumerate" = none) (ha : PA X [e] ta) (hs : starEach [e] X.env = [(false, eval e X.env)] := by rfl) :
    PI X (.Tuple elts kk tpos) (.Call (.Name "enumerate" p) [e] [] pos) (iEnumT X.K ta) := by
  refine ⟨fun pins s σ H R I h => Call_ (ld_blt I hg hm boot_enumerate (PyProof.Rows.callWith_type1 (thn (ha.run pos pins s σ H _ I h) fun us s1 ⟨vs, H1, J, r1, q1⟩ => ?_) hs rfl))⟩
  have far : ∀ b ∈ [s1.heap.objs.size + 1, s1.heap.objs.size], s1.heap.objs.size ≤ b := fun b hb => by
    rcases List.mem_cons.mp hb with rfl | hb
    · exact Nat.le_succ _
    · rw [List.mem_singleton.mp hb]; exact Nat.le_refl _
  obtain ⟨a, xs, rfl, hq, q⟩ := q1
  cases r1 with
  | cons r rr =>
    cases rr
    cases r
    obtain ⟨its, rv, pl, hz⟩ := J.tuple hq
    refine call_enumT (show s1.heap.IsTuple a its.toArray from pl) fun h' hE hit hsz hk => wpAny_pyIter_enum hE ?_
    have J2 : Inv X pins σ H1 { s1 with heap := h' } := J.kept (t' := s1.toks) hk
    exact ⟨_, _, _, _, H1, rfl, J2, turn_enumT a (s1.heap.objs.size + 1) s1.heap.objs.size, ⟨⟨.none, hE⟩, hit, Nat.succ_ne_self _⟩, fun b hb => J.fpOk (far b hb) (J.hok.fresh (far b hb)), q⟩
theorem piEnumT (K : PySem.W.Frag) {X : Cx} {e : Expr} {ta : TA} {p pos tpos : PySem.Pos} {elts : List Expr} {kk : Nat} (hg : Gl X "enumerate") (hm : X.mg "enumerate" = none) (ha : PA X [e] ta) (h : X.K = K := by rfl) (hs : starEach [e] X.env = [(false, eval e X.env)] := by rfl) :
    PI X (.Tuple elts kk tpos) (.Call (.Name "enumerate" p) [e] [] pos) (iEnumT K ta) := h ▸ pi_enumT hg hm ha hs
/-- for i, x in enumerate(tuple) -/
theorem f_enumT {K : PySem.W.Frag} {σ : L2.St} {H : Hp} {D : Ends} {ta : TA} {tb : TS} {a : Addr} {xs : List V} {i1 i2 : Nat} (ha : ∀ R : List V → Hp → Prop, R [.ref a] H → ta σ H R) (hx : SqT K H a xs) (Pv : Nat → L2.St → Hp → Prop) (h0 : Pv 0 σ H)
    (hl : ∀ i σ' H', i ≤ xs.length → Pv i σ' H' → H' a = H a)
    (hs : ∀ i x σ' H' T, xs[i]? = some x → Pv i σ' H' → H' T = none → tb { D with nx := Pv (i + 1), ct := Pv (i + 1), bk := D.nx } ((σ'.set i1 (some (.int (i : Int)))).set i2 (some x)) (upd H' T (.tup [.int (i : Int), x]))) (hd : ∀ σ' H', Pv xs.length σ' H' → D.nx σ' H') :
    tFor (iEnumT K ta) (gTup K 2 (gCons (gName i1) (gCons (gName i2) gNil))) tb D σ H := by
  refine ha _ ⟨a, xs, rfl, hx, ?_⟩
  have sq : ∀ H', H' a = H a → SqT K H' a xs := fun H' e => by
    rcases hx with (h | ⟨o, h⟩) | h
    · exact .inl (.inl (e.trans h))
    · exact .inl (.inr ⟨o, e.trans h⟩)
    · exact .inr h
  have w : Walk (Itet K a) xs.length (fun H' => H' a = H a) (fun i Ha v Hb => ∃ T x, v = .ref T ∧ Ha T = none ∧ Hb = upd Ha T (.tup [.int (i : Nat), x]) ∧ xs[i]? = some x) := by
    refine ⟨fun i H' hi e => ⟨xs, xs[i], sq H' e, by simp [hi]⟩, fun H' e => ⟨xs, sq H' e, rfl⟩, fun i H' x H2 hi e y => ?_⟩
    obtain ⟨T, x, h1, h2, h3, h4⟩ := y
    exact ⟨T, x, h1, h2, h3, h4 xs (sq H' e)⟩
  refine for_it w Pv h0 (fun i σ' H' hi p => hl i σ' H' hi p) (fun i x σ' H' H2 hi p y => ?_) hd
  obtain ⟨T, c, rfl, nT, rfl, hc⟩ := y
  exact ⟨T, _, rfl, SqT.of upd_same, rfl, _, _, rfl, _, _, rfl, rfl, hs i c σ' H' T hc p nT⟩
end Fg
namespace Fg
open PySem PySem.Spec PyProof.Rows L2
section
variable {X : Cx} {pins : List (Addr × Obj)} {σ : L2.St} {H : Hp} {s : Shared}
end
def rListP (K : PySem.W.Frag) : RC := fun xs H Q => ∃ p ys, xs = [.ref p] ∧ (SqL K H p ys ∨ SqT K H p ys) ∧ ∀ l, H l = none → Q (.ref l) (upd H l (.lst ys))
theorem cListP (K : PySem.W.Frag) {X : Cx} (h : X.K = K := by rfl) : CallR X (.type "list") (rListP K) := h ▸ call_list_of
end Fg
namespace Fg
open PySem PySem.Spec PyProof.Rows L2
theorem FnGOk.mk {P : Program} {w : World} {K : PySem.W.Frag} {mg : Str → Option Value} {base : Heap} {x : Str} {st : Stmt} {N ps : List Str} {k : Nat} {sp : Sp} {f : Addr} {fd : FuncData} (F : Fun K x x st f fd) (S : FnScope N ps (defScope st)) (len : ∀ vs H Q E, sp vs H Q E → vs.length = ps.length)
    (body : ∀ (cdv : Value) (A : Around) (outer : List Env) (s : Shared) (H : Hp) (vs : List V) (Q : VK) (E : XK), A.guards = some [] → Room k (A.deeper (envOfC x (defScope st) s.heap.objs.size f cdv)) → sp vs H Q E →
      ∃ t, PSs (cxOf CX0 P w K mg base N x (defScope st) f cdv A outer s H E).nox (defBody st) t ∧ t { nx := fun _ H' => Q .non H', rt := Q } (start N vs) H) : GOk P w K mg base CX0 (k + 1) f fd ps sp :=
  gok_mk F S len fun cdv A outer s H vs Q E hg hr h => let ⟨t, z, e⟩ := body cdv A outer s H vs Q E hg hr h; ⟨t, z.nox, e⟩
end Fg
namespace Fg
open PySem PySem.Spec PyProof.Rows L2
structure Rp (m : Nat) (d : PyData) : Prop where
  sh : d.showable = true
  lv : d.leavesShort 400 = true
  bk : d.bulk ≤ m
theorem Rp.fits {m : Nat} {d : PyData} (h : Rp m d) (hm : m ≤ 20000) : d.shown.length ≤ sizeLine := by
  have h1 := PyData.shown_le_bulk 400 (by decide) d h.lv
  have h2 : (400 + 2) * d.bulk ≤ 402 * 20000 := Nat.mul_le_mul_left _ (Nat.le_trans h.bk hm)
  have h3 : 402 * 20000 + 400 ≤ sizeLine := by decide
  omega
theorem Rp.mono {m n : Nat} {d : PyData} (h : Rp m d) (k : m ≤ n) : Rp n d := ⟨h.sh, h.lv, Nat.le_trans h.bk k⟩
theorem rp_all {m : Nat} : ∀ {ds : List PyData}, (∀ d ∈ ds, Rp m d) → PyData.showableAll ds = true ∧ PyData.leavesShortAll 400 ds = true ∧ PyData.bulkAll ds ≤ (m + 1) * ds.length
  | [], _ => ⟨rfl, rfl, by simp only [PyData.bulkAll]; exact Nat.zero_le _⟩
  | d :: r, h => by
    have h1 := h d (List.mem_cons_self ..)
    obtain ⟨a, b, c⟩ := rp_all (ds := r) fun x hx => h x (List.mem_cons_of_mem _ hx)
    refine ⟨?_, ?_, ?_⟩
    · simp only [PyData.showableAll, h1.sh, a, Bool.and_self]
    · simp only [PyData.leavesShortAll, h1.lv, b, Bool.and_self]
    · have := h1.bk
      simp only [PyData.bulkAll, List.length_cons, Nat.mul_add, Nat.mul_one]
      omega
theorem Rp.list {m : Nat} {ds : List PyData} (h : ∀ d ∈ ds, Rp m d) : Rp ((m + 1) * ds.length) (.list ds) := by
  obtain ⟨a, b, c⟩ := rp_all h
  exact ⟨by simp only [PyData.showable]; exact a, by simp only [PyData.leavesShort]; exact b, by simp only [PyData.bulk]; exact c⟩
theorem Rp.tuple {m : Nat} {ds : List PyData} (h : ∀ d ∈ ds, Rp m d) : Rp ((m + 1) * ds.length) (.tuple ds) := by
  obtain ⟨a, b, c⟩ := rp_all h
  exact ⟨by simp only [PyData.showable]; exact a, by simp only [PyData.leavesShort]; exact b, by simp only [PyData.bulk]; exact c⟩
theorem Rp.str {m : Nat} {l : List Nat} (h : l.length ≤ m) (hc : ∀ c ∈ l, c < 16 ^ 8) : Rp m (dS l) := by
  refine ⟨by simp only [PyData.showable], ?_, ?_⟩
  · simp only [PyData.leavesShort, List.all_eq_true, decide_eq_true_eq]
    intro c hm
    exact hc c (by simpa using hm)
  · simp only [PyData.bulk]
    have : (⟨l.toArray⟩ : Str).cps.size = l.length := by simp
    omega
theorem Rp.non {m : Nat} : Rp m .none := ⟨rfl, rfl, Nat.zero_le _⟩
theorem Rp.bool {m : Nat} (b : Bool) : Rp m (.bool b) := ⟨rfl, rfl, Nat.zero_le _⟩
theorem Rp.int {m : Nat} {i : Int} (h : i.natAbs < 10 ^ 40) : Rp m (.int i) := by
  refine ⟨?_, ?_, Nat.zero_le _⟩
  · simp only [PyData.showable]
    refine decide_eq_true ?_
    rcases Nat.eq_zero_or_pos i.natAbs with z | z
    · rw [z]; decide
    · refine (Nat.log2_lt (by omega)).mpr (Nat.lt_trans h ?_)
      exact (by decide +kernel : 10 ^ 40 < 2 ^ 1920)
  · have := int_text_length_le10 (a := i) (k := 40) (by decide) h
    simp only [PyData.leavesShort]
    refine decide_eq_true ?_
    show (PyData.shown (.int i)).length ≤ 400
    have e : (PyData.shown (.int i)).length = (toString i).length := by
      show (Str.ofString (toString i)).length = _
      rw [PySem.ofString_length]
    omega
/-- repr of any value that is data -/
def rReprA (K : PySem.W.Frag) : RC := fun xs H Q => ∃ (v : V) (d : PyData), xs = [v] ∧ Dp K H v d ∧ d.showable = true ∧ d.hasDict = false ∧ d.depth ≤ 60 ∧ d.shown.length ≤ sizeLine ∧ Q (.str d.shown) H
theorem cReprA (K : PySem.W.Frag) {X : Cx} (hgu : X.A.guards = some []) (hu : X.A.units + 64 < cLine) (hK : X.K = K := by rfl) : CallR X (.builtin "repr") (rReprA K) := by
  subst hK
  intro pins s σ H xs us Q I r h
  obtain ⟨v, d, rfl, hd, h1, h2, h3, h4, q⟩ := h
  cases r with
  | cons ru rn =>
    cases rn
    cases v with
    | ref a =>
      cases (show _ = Value.ref a from ru)
      obtain ⟨as, rd⟩ := Dp.reads I d (.ref a) (.ref a) hd rfl
      exact repr_of_reads' rd h1 (PyData.noDict_hsm h2) hgu (by omega) (fun b o e => e)
        (fun h' u tk hk => ⟨.str d.shown, H, I.kept (t' := tk) hk, ⟨u, rfl⟩, q⟩) h4
    | non =>
      cases hd
      cases (show _ = Value.none from ru)
      exact PySem.P.repr_of_none ⟨.str (PyData.shown .none), H, I.tok (s.toks + 1), ⟨_, rfl⟩, q⟩
    | bl b =>
      cases hd
      cases (show _ = Value.bool b from ru)
      exact PySem.P.repr_of_bool ⟨.str (PyData.shown (.bool b)), H, I.tok (s.toks + 1), ⟨_, rfl⟩, q⟩
    | int i =>
      cases hd
      obtain ⟨t, rfl⟩ := (show ∃ t, _ = Value.int i t from ru)
      exact PySem.P.repr_of_int (of_decide_eq_true (by simpa only [PyData.showable] using h1)) ⟨.str (PyData.shown (.int i)), H, I.tok (s.toks + 1), ⟨_, rfl⟩, q⟩
    | str x =>
      cases hd
      obtain ⟨t, rfl⟩ := (show ∃ t, _ = Value.str x t from ru)
      exact PySem.P.repr_of_str ⟨.str (PyData.shown (.str x)), H, I.tok (s.toks + 1), ⟨_, rfl⟩, q⟩ h4
    | _ => cases hd
section
variable {K : PySem.W.Frag} {H : Hp} {Q : VK} {v : V} {d : PyData} {m : Nat}
theorem i_reprA (h : At H v d) (r : Rp m d) (hm : m ≤ 20000) (nd : d.hasDict = false) (dp : d.depth ≤ 60) (q : Q (.str d.shown) H) : rReprA K [v] H Q := ⟨v, d, rfl, h.dp K d v nd, r.sh, nd, dp, r.fits hm, q⟩
end
end Fg
namespace Fg
open PySem PySem.Spec PyProof.Rows L2
abbrev SG : List Nat := [46, 103, 114, 119]
abbrev DG : List Nat := [48, 49, 50, 51, 52, 53, 54, 55, 56, 57]
def rpt (n : Nat) (l : List Nat) : List Nat := (List.replicate n l).flatten
theorem rpt_len (n : Nat) (l : List Nat) : (rpt n l).length = n * l.length := by simp [rpt, List.length_flatten]
/-- the first lit one -/
def firstLit : List Nat → Nat
  | [] => 46
  | c :: r => if c = 46 then firstLit r else c
/-- a stretch as the reader has it -/
def Sv (n : Nat) (r : List Nat) : HO := .tup [.int (n : Int), if n ≤ 24 then S r else .non]
abbrev Stv := Nat × List Nat
def lcmL (ps : List Stv) : Nat := ps.foldl (fun b p => Nat.lcm b p.1) 1
def showN (ps : List Stv) (n : Nat) : List Nat := (List.range n).map fun i => firstLit (ps.map fun p => (rpt (n / p.1) p.2).getD i 0)
theorem showN_len (ps : List Stv) (n : Nat) : (showN ps n).length = n := by simp [showN]
theorem fold_pos (ps : List Stv) (h : ∀ p ∈ ps, 1 ≤ p.1) : ∀ b, 1 ≤ b → 1 ≤ ps.foldl (fun b p => Nat.lcm b p.1) b := by
  induction ps with
  | nil => exact fun b hb => hb
  | cons q r ih => exact fun b hb => ih (fun p hp => h p (List.mem_cons_of_mem _ hp)) _ (Nat.lcm_pos hb (h q List.mem_cons_self))
theorem lcmL_pos {ps : List Stv} (h : ∀ p ∈ ps, 1 ≤ p.1) : 1 ≤ lcmL ps := fold_pos ps h 1 (Nat.le_refl _)
def run (z : List Nat) (a : Nat) : List Nat := (z.drop a).takeWhile fun c => decide (c ∈ DG)
def bd (z : List Nat) (a : Nat) : Nat := a + (run z a).length
def num (l : List Nat) : Nat := l.foldl (fun n c => 10 * n + (c - 48)) 0
def within (l : List Nat) (lo hi : Nat) : Bool := decide (1 ≤ l.length) && decide (l.length ≤ 2) && decide (lo ≤ num l) && decide (num l ≤ hi)
abbrev Res := Except Nat (Stv × Nat)
def rep (s : Stv) (t : Nat) : Stv := (s.1 * t, rpt t s.2)
def beh (s u : Stv) : Stv := (s.1 + u.1, s.2 ++ u.2)
def shown (ps : List Stv) : Stv := (lcmL ps, showN ps (lcmL ps))
def fillTo (p : Stv) (b : Nat) : Stv := (b, p.2 ++ List.replicate (b - p.1) 46)
def isStart (c : Nat) : Bool := decide (c ∈ SG) || decide (c ∈ DG)
def timesOf (r : List Nat) : Nat := if r = [] then 1 else num r
def close (z : List Nat) (t : Nat) : Res → Res
  | .error k => .error k
  | .ok (s, e) => if z[e]? = some 41 then .ok (rep s t, e + 1) else .error e
def item (rp : Option (Nat → Res)) (z : List Nat) (a : Nat) : Res :=
  if (run z a).take 1 = [48] then .error a
  else match z[bd z a]? with
    | none => .error (bd z a)
    | some c =>
      if c ∉ SG ∧ c ≠ 40 then .error (bd z a)
      else if run z a ≠ [] ∧ within (run z a) 2 24 = false then .error a
      else if c ≠ 40 then .ok (rep (1, [c]) (timesOf (run z a)), bd z a + 1)
      else match rp with
        | none => .error (bd z a)
        | some f => close z (timesOf (run z a)) (f (bd z a + 1))
def goOn (k : Stv → Nat → Res) : Res → Res
  | .error k => .error k
  | .ok (s, e) => k s e
def items (ri : Nat → Res) (z : List Nat) : Nat → Nat → Stv → Res
  | 0, a, p => .ok (p, a)
  | f + 1, a, p => match z[a]? with
    | none => .ok (p, a)
    | some c => if isStart c = true then goOn (fun s e => items ri z f e (beh p s)) (ri a) else .ok (p, a)
def filled (z : List Nat) (a : Nat) (p : Stv) : Res :=
  if run z a = [] then .error a
  else if (run z a).take 1 = [48] ∨ within (run z a) (max 1 p.1) 24 = false then .error a
  else .ok (fillTo p (num (run z a)), bd z a)
def partEnd (z : List Nat) (p : Stv) (e : Nat) : Res := if p.1 = 0 then .error e else if z[e]? = some 64 then filled z (e + 1) p else .ok (p, e)
def part (ri : Nat → Res) (z : List Nat) (a : Nat) : Res := goOn (partEnd z) (items ri z (z.length + 1 - a) a (0, []))
def more (rq : Nat → Res) (z : List Nat) : Nat → Nat → List Stv → Res
  | 0, a, ps => .ok (shown ps, a)
  | f + 1, a, ps => if z[a]? = some 38 then goOn (fun s e => more rq z f e (ps ++ [s])) (rq (a + 1)) else .ok (shown ps, a)
def parts (ri : Nat → Res) (z : List Nat) (a : Nat) : Res := goOn (fun s e => more (part ri z) z (z.length + 1 - e) e [s]) (part ri z a)
mutual
/-- an item, so many more may be opened -/
def rdItem (z : List Nat) : Nat → Nat → Res
  | 0 => item none z
  | d + 1 => item (some (rd z d)) z
def rd (z : List Nat) : Nat → Nat → Res
  | d => parts (rdItem z d) z
end
def Gb (s : Stv) (w : Nat) : Prop := s.1 + 1 ≤ 2 ^ (5 * w) ∧ (s.1 ≤ 24 → s.2.length = s.1)
theorem pow_mono5 {x y : Nat} (h : x ≤ y) : 2 ^ (5 * x) ≤ 2 ^ (5 * y) := Nat.pow_le_pow_right (by decide) (by omega)
theorem pow32 {w : Nat} (h : 1 ≤ w) : 32 ≤ 2 ^ (5 * w) := Nat.le_trans (by decide : 32 ≤ 2 ^ (5 * 1)) (pow_mono5 h)
theorem Gb.small {s : Stv} {w : Nat} (h : s.1 ≤ 24) (hw : 1 ≤ w) (hl : s.2.length = s.1) : Gb s w := ⟨by have := pow32 hw; omega, fun _ => hl⟩
theorem Gb.beh {p s : Stv} {x y : Nat} (hp : Gb p x) (hs : Gb s y) : Gb (beh p s) (x + y) := by
  refine ⟨?_, fun h => ?_⟩
  · show p.1 + s.1 + 1 ≤ _
    rw [Nat.mul_add, Nat.pow_add]
    refine Nat.le_trans ?_ (Nat.mul_le_mul hp.1 hs.1)
    rw [Nat.add_mul, Nat.mul_add]
    omega
  · have h : p.1 + s.1 ≤ 24 := h
    show (p.2 ++ s.2).length = p.1 + s.1
    rw [List.length_append, hp.2 (by omega), hs.2 (by omega)]
theorem Gb.rep {s : Stv} {x y t : Nat} (hs : Gb s x) (h1 : 1 ≤ s.1) (t1 : 1 ≤ t) (t2 : t ≤ 24) (hy : x + 1 ≤ y) : Gb (rep s t) y := by
  refine ⟨?_, fun h => ?_⟩
  · show s.1 * t + 1 ≤ _
    refine Nat.le_trans ?_ (pow_mono5 hy)
    rw [Nat.mul_add, Nat.pow_add]
    have := Nat.mul_le_mul hs.1 (show 24 ≤ 2 ^ (5 * 1) by decide)
    have h2 : s.1 * t ≤ s.1 * 24 := Nat.mul_le_mul_left _ t2
    omega
  · have h : s.1 * t ≤ 24 := h
    have : s.1 ≤ s.1 * t := Nat.le_mul_of_pos_right _ t1
    show (rpt t s.2).length = s.1 * t
    rw [rpt_len, hs.2 (by omega), Nat.mul_comm]
def Gps (ps : List Stv) (w : Nat) : Prop := lcmL ps + 1 ≤ 2 ^ (5 * w) ∧ ∀ p ∈ ps, 1 ≤ p.1 ∧ (p.1 ≤ 24 → p.2.length = p.1)
theorem Gps.shown {ps : List Stv} {w : Nat} (h : Gps ps w) : 1 ≤ (shown ps).1 ∧ Gb (shown ps) w :=
  ⟨lcmL_pos fun p hp => (h.2 p hp).1, h.1, fun _ => showN_len _ _⟩
theorem Gps.one {s : Stv} {w : Nat} (h1 : 1 ≤ s.1) (h : Gb s w) : Gps [s] w := by
  refine ⟨?_, fun p hp => ?_⟩
  · show Nat.lcm 1 s.1 + 1 ≤ _
    rw [show Nat.lcm 1 s.1 = s.1 by simp [Nat.lcm]]; exact h.1
  · rw [List.mem_singleton.mp hp]; exact ⟨h1, h.2⟩
theorem Gps.mono {ps : List Stv} {x y : Nat} (h : Gps ps x) (e : x ≤ y) : Gps ps y := ⟨Nat.le_trans h.1 (pow_mono5 e), h.2⟩
end Fg
namespace Fg
open PySem PySem.Spec PyProof.Rows L2
def PartsAt (H : Hp) (qs : List Addr) (ps : List Stv) : Prop := qs.length = ps.length ∧ ∀ (i : Nat) (q : Addr) (p : Stv), qs[i]? = some q → ps[i]? = some p → H q = some (Sv p.1 p.2)
theorem PartsAt.mono {H H' : Hp} {qs : List Addr} {ps : List Stv} (h : PartsAt H qs ps) (s : Same H H') : PartsAt H' qs ps := ⟨h.1, fun i q p a b => s _ _ (h.2 i q p a b)⟩
/-- below some thousand bits -/
def Big (n : Nat) : Prop := n < 2 ^ 8600
theorem Big.le {n m : Nat} (h : Big n) (e : m ≤ n) : Big m := Nat.lt_of_le_of_lt e h
theorem Gb.big {s : Stv} {w : Nat} (h : Gb s w) (hw : w ≤ 1700) : Big s.1 := Nat.lt_of_lt_of_le (Nat.lt_of_lt_of_le (Nat.lt_succ_self _) h.1) (Nat.pow_le_pow_right (by decide) (by omega))
theorem Gps.big {ps : List Stv} {w : Nat} (h : Gps ps w) (hw : w ≤ 1700) : Big (lcmL ps) := Nat.lt_of_lt_of_le (Nat.lt_of_lt_of_le (Nat.lt_succ_self _) h.1) (Nat.pow_le_pow_right (by decide) (by omega))
/-- what is no string -/
def NoStr (H : Hp) (x : V) : Prop := x = .non ∨ (∃ b, x = .bl b) ∨ (∃ i, x = .int i) ∨ ∃ a xs, x = .ref a ∧ (H a = some (.tup xs) ∨ H a = some (.lst xs))
theorem NoStr.mono {H H' : Hp} {x : V} (h : NoStr H x) (s : Same H H') : NoStr H' x := by
  rcases h with h | h | h | ⟨a, xs, h, h2⟩
  · exact .inl h
  · exact .inr (.inl h)
  · exact .inr (.inr (.inl h))
  · exact .inr (.inr (.inr ⟨a, xs, h, h2.imp (s _ _) (s _ _)⟩))
end Fg
namespace Fg
open PySem PySem.Spec PyProof.Rows L2
theorem upd_comm {H : Hp} {a b : Addr} {o o' : HO} (h : a ≠ b) : upd (upd H a o) b o' = upd (upd H b o') a o := by
  funext c
  by_cases h1 : c = b
  · rw [h1, upd_same, upd_ne (Ne.symm h), upd_same]
  · rw [upd_ne h1]
    by_cases h2 : c = a
    · rw [h2, upd_same, upd_same]
    · rw [upd_ne h2, upd_ne h2, upd_ne h1]
end Fg
namespace Fg
open PySem PySem.Spec PyProof.Rows L2
/-- a special method that stands in the text, with its promise -/
def DOK (P : Program) (w : World) (K : PySem.W.Frag) (mg : Str → Option Value) (base : Heap) (CX : CXT) (k : Nat) (C : Addr) (m : Str) (ps : List Str) (sp : Sp) : Prop :=
  ∃ (f : Addr) (fd : FuncData), Meth K C m f ∧ PySem.W.fnIn K f = true ∧ FnOk P w K mg base CX k f fd ps sp ∧ Binds K fd ps []
section
variable {P : Program} {w : World} {K : PySem.W.Frag} {mg : Str → Option Value} {base : Heap} {q m : Str} {st : Stmt} {N ps : List Str} {k : Nat} {sp : Sp} {C : Addr}
theorem FunD.fnIn {x q : Str} {ag : Arguments} {bd : List Stmt} {sc : Scope} {dvs : List V} {kws : List (Str × V)} {f : Addr} {fd : FuncData} (F : FunD K x q ag bd sc dvs kws f fd) : PySem.W.fnIn K f = true := by
  obtain ⟨⟨_, _, _, _, _, _, _, _, _, _, e, h, _⟩, _⟩ := F
  unfold PySem.W.fnIn
  rw [h, e]
theorem DOK.mk (D : MetIn K C m q st ps []) (S : FnScope N ps (defScope st)) (len : ∀ vs H Q E, sp vs H Q E → vs.length = ps.length)
    (body : ∀ (f : Addr) (cdv : Value) (A : Around) (outer : List Env) (s : Shared) (H : Hp) (vs : List V) (Q : VK) (E : XK), Room k (A.deeper (envOfC q (defScope st) s.heap.objs.size f cdv)) → sp vs H Q E →
      ∃ t, PSs (cxOf CX0 P w K mg base N q (defScope st) f cdv A outer s H E).nox (defBody st) t ∧ t { nx := fun _ H' => Q .non H', rt := Q } (start N vs) H) : DOK P w K mg base CX0 (k + 1) C m ps sp := by
  obtain ⟨f, fd, hm, F, hb, _⟩ := D
  exact ⟨f, fd, hm, FunD.fnIn F, FunD.ok0 F S len fun cdv A outer s H vs Q E hr h => body f cdv A outer s H vs Q E hr h, hb⟩
theorem DOK.mkX (D : MetIn K C m q st ps []) (S : FnScope N ps (defScope st)) (len : ∀ vs H Q E, sp vs H Q E → vs.length = ps.length)
    (body : ∀ (f : Addr) (cdv : Value) (A : Around) (outer : List Env) (s : Shared) (H : Hp) (vs : List V) (Q : VK) (E : XK), Room k (A.deeper (envOfC q (defScope st) s.heap.objs.size f cdv)) → sp vs H Q E →
      ∃ t, PSs (cxOf (L2.CX P w) P w K mg base N q (defScope st) f cdv A outer s H E) (defBody st) t ∧ t { nx := fun _ H' => Q .non H', rt := Q } (start N vs) H) : DOK P w K mg base (L2.CX P w) (k + 1) C m ps sp := by
  obtain ⟨f, fd, hm, F, hb, _⟩ := D
  exact ⟨f, fd, hm, FunD.fnIn F, F.ok S len fun cdv A outer s H vs Q E hr h => body f cdv A outer s H vs Q E hr h, hb⟩
end
section
variable {X : Cx} {CX : CXT} {k : Nat} {f C a : Addr} {fd : FuncData} {ps : List Str} {sp : Sp} {E : XK} {pins : List (Addr × Obj)} {σ : L2.St} {H : Hp} {s : Shared}
end
end Fg
namespace Fg
open PySem PySem.Spec PyProof.Rows L2
abbrev tItO (t : Addr) : Obj := { cls := .type "tuple_iterator", data := .fields #[.ref t, .int 0 0] }
/-- the iterator, at its beginning -/
def TiO (it t : Addr) : HO := .ext fun h => h.get? it = some (tItO t)
/-- a def whose promise speaks of the age of what it makes: n is the heap's size at the call -/
structure NOk (P : Program) (w : World) (K : PySem.W.Frag) (mg : Str → Option Value) (base : Heap) (CX : CXT) (k : Nat) (f : Addr) (fd : FuncData) (ps : List Str) (sp : Nat → Sp) : Prop where
  many : ∀ n vs H Q E, sp n vs H Q E → vs.length = ps.length
  runs : ∀ (B : Around) (o : List Env) (t : Shared) (H : Hp) (ar : Args) (us : List Value) (vs : List V) (Q : VK) (E : XK),
    Room k B → Env0 P w K mg base B o t H → BindsTo t fd ar (ps.zip us) → Vals vs us →
    sp t.heap.objs.size vs H Q E → codeAny (model P w) B (.call (.ref f) ar) (CR CX o P w H t Q E) t
section
variable {P : Program} {w : World} {K : PySem.W.Frag} {mg : Str → Option Value} {base : Heap} {CX : CXT} {k : Nat} {f : Addr} {fd : FuncData} {ps N : List Str} {sp : Nat → Sp} {x q : Str} {st : Stmt} {dvs : List V} {kws : List (Str × V)}
theorem nok_mk (F : FunD K x q (defArgs st) (defBody st) (defScope st) dvs kws f fd) (S : FnScope N ps (defScope st)) (many : ∀ n vs H Q E, sp n vs H Q E → vs.length = ps.length)
    (body : ∀ (cv : Value) (B : Around) (o : List Env) (t : Shared) (H : Hp) (vs : List V) (Q : VK) (E : XK),
      Room k (B.deeper (envOfC q (defScope st) t.heap.objs.size f cv)) → sp t.heap.objs.size vs H Q E →
      ∃ rd, PSs (cxOf CX P w K mg base N q (defScope st) f cv B o t H E) (defBody st) rd ∧
        rd { nx := fun _ H2 => Q .non H2, rt := Q } (start N vs) H) : NOk P w K mg base CX (k + 1) f fd ps sp := by
  obtain ⟨c1, d1, kw1, dc1, pm1, an1, cv1, ct1, sl1, osl1, rfl, at1, code1, _, _⟩ := F.ex
  refine ⟨many, fun B o t H ar us vs Q E room en bd rv asked => ?_⟩
  have inK : K.In t.heap := en.mod.kin.keeps fun b u e => (en.bs b u e).1
  have nolim : t.heap.NoLimit := en.mod.nolimit.keeps fun b u e => (en.bs b u e).1
  have n1 := many _ _ _ _ _ asked
  refine codeAny_call_function room.depth (inK _ _ at1) rfl S.co S.gen rfl
    (PySem.W.codeRec_of inK code1) (bd _ _ _ _ ?_)
  refine wpAny_newFunctionEnv_cells S.kind (fun ⟨nm, u⟩ hm => ?_) fun env he t1 made => ?_
  · exact (S.par nm (List.of_mem_zip hm).1).elim .inl fun z => .inr ⟨z, PySem.W.cellsFrom_some _ _ _ (.inl z)⟩
  subst he
  obtain ⟨rd, walked, holds⟩ := body ct1 B o t H vs Q E (room.deeper _) asked
  have I0 := inv_start (CX := CX) (E := E) S room.hd en n1 rv made
  refine ⟨nolim.keeps made.toInCall.keep, codeAny_func (wpAny_mono (walked.run [] t1 (start N vs) H _ I0 holds) (fun fl t2 h2 => ?_) fun _ _ h2 => h2)⟩
  cases fl with
  | brk => obtain ⟨_, _, _, z⟩ := h2; exact z.elim
  | cont => obtain ⟨_, _, _, z⟩ := h2; exact z.elim
  | next =>
    obtain ⟨_, H2, J, z⟩ := h2
    exact ⟨.non, H2, J.os, J.bare, J.base, J.hok, rfl, z⟩
  | ret u =>
    obtain ⟨v, _, H2, J, rv2, z⟩ := h2
    exact ⟨v, H2, J.os, J.bare, J.base, J.hok, rv2, z⟩
end
/-- __iter__ of the class at C: an iterator over the tuple in the field fl -/
def spIt (K : PySem.W.Frag) (C : Addr) (fl : Str) (n : Nat) : Sp := sp1 fun x H Q _ => ∃ a dx fs t zs, x = .ref a ∧ H a = some (.ins C dx fs) ∧ fs.lookup fl = some (.ref t) ∧ SqT K H t zs ∧ ∀ it, H it = none → n ≤ it → Q (.ref it) (upd H it (TiO it t))
def IOK (P : Program) (w : World) (K : PySem.W.Frag) (mg : Str → Option Value) (base : Heap) (CX : CXT) (k : Nat) (C : Addr) (fl : Str) : Prop :=
  ∃ (f : Addr) (fd : FuncData), Meth K C "__iter__" f ∧ NOk P w K mg base CX k f fd ["self"] (spIt K C fl) ∧ Binds K fd ["self"] []
theorem IOK.mk {P : Program} {w : World} {K : PySem.W.Frag} {mg : Str → Option Value} {base : Heap} {q fl : Str} {st : Stmt} {N : List Str} {k : Nat} {C : Addr} (D : MetIn K C "__iter__" q st ["self"] []) (S : FnScope N ["self"] (defScope st))
    (body : ∀ (f : Addr) (cdv : Value) (A : Around) (outer : List Env) (s : Shared) (H : Hp) (vs : List V) (Q : VK) (E : XK), Room k (A.deeper (envOfC q (defScope st) s.heap.objs.size f cdv)) → spIt K C fl s.heap.objs.size vs H Q E →
      ∃ t, PSs (cxOf CX0 P w K mg base N q (defScope st) f cdv A outer s H E).nox (defBody st) t ∧ t { nx := fun _ H' => Q .non H', rt := Q } (start N vs) H) : IOK P w K mg base CX0 (k + 1) C fl := by
  obtain ⟨f, fd, hm, F, hb, _⟩ := D
  exact ⟨f, fd, hm, nok_mk F S (fun n vs H Q E h => len1 vs H Q E h) fun cv B o t H vs Q E hr h => let ⟨rd, z, e⟩ := body f cv B o t H vs Q E hr h; ⟨rd, z.nox, e⟩, hb⟩
section
variable {X : Cx} {CX : CXT} {k : Nat} {C : Addr} {ps : List Str} {sp : Sp} {E : XK}
end
end Fg
namespace Fg
open PySem PySem.Spec PyProof.Rows L2
section
variable {X : Cx} {CX : CXT} {k : Nat} {f C a : Addr} {fd : FuncData} {x : Str} {ps : List Str} {sp : Sp} {E : XK} {ES : L2.St → XK} {pins : List (Addr × Obj)} {σ : L2.St} {H : Hp} {s : Shared} {dvs : List V} {ds : List Value}
end
structure InsC (K : PySem.W.Frag) (C : Addr) : Prop where
  cl : Cls K C
  ha : PySem.W.findIn K (.ref C) "__class__" = some (some (.builtin "object.__class__"))
  hn : PySem.W.specialIn K (.builtin "object.__class__") "__get__" = some (some (.builtin "getset_descriptor.__get__"))
  ht : PySem.W.takesIn K (.builtin "object.__class__") = some true
  hm : PySem.W.mroIn K C (.type "object") = some true
theorem kit_bltn {K : PySem.W.Frag} {T : String} {D : Addr} {b : Bool} (hi : PySem.W.isClsIn K D = true) (ht : PySem.W.typeIn K (.ref D) = some (.type "type")) (e : PySem.W.subIn K (.type T) (.ref D) = some b) : PySem.W.kitOne K (.type T) (.ref D) = some b := by
  unfold PySem.W.kitOne
  rw [if_neg (by simp)]
  show (if ((PySem.W.clsIn K D).isSome && PySem.W.typeIn K (.ref D) == some (.type "type")) = true then PySem.W.subIn K (.type T) (.ref D) else none) = _
  rw [show (PySem.W.clsIn K D).isSome = true from hi, ht, if_pos (by simp)]
  exact e
section
variable {K : PySem.W.Frag} {σ : L2.St} {H : Hp} {Q : VK} {E : XK} {ES : L2.St → XK} {C a dx : Addr} {fs : List (Str × V)} {to te : TE} {ta : TA} {sp : Sp} {c y v : V} {cv : Value} {b : Bool} {d : PyData} {R : It → Hp → Prop}
end
end Fg
namespace Fg
open PySem PySem.Spec PyProof.Rows L2
section
variable {X : Cx} {CX : CXT} {k : Nat} {f C a : Addr} {fd : FuncData} {ps : List Str} {sp : Sp} {E : XK} {pins : List (Addr × Obj)} {σ : L2.St} {H : Hp} {s : Shared}
def PropIn (K : PySem.W.Frag) (C : Addr) (m q : Str) (st : Stmt) : Prop :=
  ∃ (p g : Addr) (fd : FuncData), PropOf K C m p g ∧ FunD K m q (defArgs st) (defBody st) (defScope st) [] [] g fd ∧ Binds K fd ["self"] []
def POK (P : Program) (w : World) (K : PySem.W.Frag) (mg : Str → Option Value) (base : Heap) (k : Nat) (C : Addr) (m : Str) (sp : Sp) : Prop :=
  ∃ (p g : Addr) (fd : FuncData), PropOf K C m p g ∧ FnOk P w K mg base CX0 k g fd ["self"] sp ∧ Binds K fd ["self"] []
theorem POK.mk {P : Program} {w : World} {K : PySem.W.Frag} {mg : Str → Option Value} {base : Heap} {q m : Str} {st : Stmt} {N : List Str} {k : Nat} {sp : Sp} {C : Addr} (D : PropIn K C m q st) (S : FnScope N ["self"] (defScope st)) (len : ∀ vs H Q E, sp vs H Q E → vs.length = 1)
    (body : ∀ (f : Addr) (cdv : Value) (A : Around) (outer : List Env) (s : Shared) (H : Hp) (vs : List V) (Q : VK) (E : XK), Room k (A.deeper (envOfC q (defScope st) s.heap.objs.size f cdv)) → sp vs H Q E →
      ∃ t, PSs (cxOf CX0 P w K mg base N q (defScope st) f cdv A outer s H E).nox (defBody st) t ∧ t { nx := fun _ H' => Q .non H', rt := Q } (start N vs) H) : POK P w K mg base (k + 1) C m sp := by
  obtain ⟨p, f, fd, hm, F, hb⟩ := D
  exact ⟨p, f, fd, hm, FunD.ok0 F S len fun cdv A outer s H vs Q E hr h => body f cdv A outer s H vs Q E hr h, hb⟩
section
variable {A1 : Around} {t it q : Addr} {zs : List V} {Rs : Result → Shared → Prop}
end
end
section
variable {K : PySem.W.Frag} {σ : L2.St} {H : Hp} {Q : VK} {E : XK} {C a b dx dy t : Addr} {fs gs : List (Str × V)} {te tf : TE} {ta : TA} {sp : Sp} {y : V} {zs : List V} {fl : Str} {d : PyData}
end
section
variable {X : Cx} {CX : CXT} {k : Nat} {C : Addr} {ps : List Str} {sp : Sp} {ES : L2.St → XK}
end
end Fg
namespace Fg
open PySem PySem.Spec PyProof.Rows L2
section
variable {K : PySem.W.Frag} {σ : L2.St} {H : Hp} {Q : VK} {te tl : TE} {tt : TT} {j : Nat} {z : List Nat} {vs : List Nat}
end
end Fg
namespace Fg
open PySem PySem.Spec PyProof.Rows L2
abbrev kS (l : List Nat) : Key := .inr ⟨l.toArray⟩
theorem putK_len {κ : Type} [DecidableEq κ] (kvs : List (κ × V)) (k : κ) (v : V) : (putK kvs k v).length ≤ kvs.length + 1 := by
  unfold putK
  split
  · rw [List.length_map]; omega
  · rw [List.length_append, List.length_singleton]; exact Nat.le_refl _
/-- at a a dict of at most n entries, which answers g -/
def TD (n : Nat) (H : Hp) (a : Addr) (g : List Nat → Option V) : Prop := ∃ kvs : List (Key × V), H a = some (.dK kvs) ∧ kvs.length ≤ n ∧ ∀ l, valV kvs (kS l) = g l
def PD (n : Nat) (H : Hp) (a : Addr) (g : Int → Int → Option V) : Prop := ∃ kvs : List (List Key × V), H a = some (.dT kvs) ∧ kvs.length ≤ n ∧ ∀ i j, valV kvs [.inl i, .inl j] = g i j
section
variable {n : Nat} {H H' : Hp} {a b : Addr} {g : List Nat → Option V} {f : Int → Int → Option V} {l : List Nat} {v : V} {Q : VK} {i j : Int}
theorem TD.at (h : TD n H a g) (e : H' a = H a) : TD n H' a g := by
  obtain ⟨kvs, h1, h2⟩ := h
  exact ⟨kvs, e.trans h1, h2⟩
theorem PD.at (h : PD n H a f) (e : H' a = H a) : PD n H' a f := by
  obtain ⟨kvs, h1, h2⟩ := h
  exact ⟨kvs, e.trans h1, h2⟩
theorem TD.mono (h : TD n H a g) (s : Same H H') : TD n H' a g := by
  obtain ⟨kvs, h1, h2⟩ := h
  exact ⟨kvs, s _ _ h1, h2⟩
theorem PD.mono (h : PD n H a f) (s : Same H H') : PD n H' a f := by
  obtain ⟨kvs, h1, h2⟩ := h
  exact ⟨kvs, s _ _ h1, h2⟩
theorem TD.some (h : TD n H a g) : ∃ o, H a = some o := by
  obtain ⟨kvs, h1, h2⟩ := h
  exact ⟨_, h1⟩
theorem PD.some (h : PD n H a f) : ∃ o, H a = some o := by
  obtain ⟨kvs, h1, h2⟩ := h
  exact ⟨_, h1⟩
theorem TD.new : TD 0 (upd H a (.dK [])) a (fun _ => none) := ⟨[], upd_same, Nat.le_refl _, fun _ => rfl⟩
theorem PD.new : PD 0 (upd H a (.dT [])) a (fun _ _ => none) := ⟨[], upd_same, Nat.le_refl _, fun _ _ => rfl⟩
end
section
variable {σ : L2.St} {H : Hp} {Q : VK} {td ty tv : TE} {D : Ends}
theorem i_dget (q : td σ H fun x H1 => ty σ H1 fun y H2 => ∃ a v, x = .ref a ∧ DGet H2 a y (some v) ∧ Q v H2) : tDGet td ty σ H Q := q
theorem i_din (q : ty σ H fun y H1 => td σ H1 fun x H2 => ∃ a o, x = .ref a ∧ DGet H2 a y o ∧ Q (.bl o.isSome) H2) : tDIn ty td σ H Q := q
theorem i_dnotin (q : ty σ H fun y H1 => td σ H1 fun x H2 => ∃ a o, x = .ref a ∧ DGet H2 a y o ∧ Q (.bl (!o.isSome)) H2) : tDNotIn ty td σ H Q := q
theorem i_dput (q : tv σ H fun v H1 => td σ H1 fun x H2 => ty σ H2 fun y H3 => ∃ a H4, x = .ref a ∧ DPut H3 a y v H4 ∧ D.nx σ H4) : sDPut td ty tv D σ H := q
theorem i_dnewT (q : ∀ p, H p = none → Q (.ref p) (upd H p (.dT []))) : tDNewT σ H Q := q
end
def tTru (K : PySem.W.Frag) (te : TE) : TT := fun σ H Q => te σ H fun x H' => ∃ k, TruV K x H' k ∧ Q k H'
section
variable {K : PySem.W.Frag} {σ : L2.St} {H : Hp} {te : TE} {a : Addr} {xs : List V} {l : List Nat} {P : Bool → Prop} {Q : Bool → Hp → Prop}
theorem i_tru (q : te σ H fun x H' => ∃ k, TruV K x H' k ∧ Q k H') : tTru K te σ H Q := q
theorem i_truL (h : H a = some (.lst xs)) (q : P (!xs.isEmpty)) : ∃ k, TruV K (.ref a) H k ∧ P k := ⟨_, .inl ⟨xs, .inl (.inl h), rfl⟩, q⟩
end
theorem ptTruth (K : PySem.W.Frag) {X : Cx} {e : Expr} {te : TE} (he : PE X e te) (h1 : ∀ whole, isTrue e X.env whole = (do let v ← whole; standAt e.pos; holding [v] (truthy v))) (h : X.K = K := by rfl) : PT X e (tTru K te) := h ▸ pt_truth he h1
end Fg
namespace Fg
open PySem PySem.Spec PyProof.Rows L2
section
variable {σ : L2.St} {H : Hp} {Q : VK} {td ty : TE} {a : Addr} {n : Nat} {g : List Nat → Option V} {l : List Nat}
end
end Fg
namespace Fg
open PySem PySem.Spec PyProof.Rows L2
theorem strOk_small {l : List Nat} (h : ∀ c ∈ l, c < 0x110000) : PyData.strOk ⟨l.toArray⟩ = true := by
  show (⟨l.toArray⟩ : Str).cps.all (· < 0x110000) = true
  rw [Array.all_eq_true_iff_forall_mem]
  intro c hc
  exact decide_eq_true (h c (by simpa using hc))
section
variable {K : PySem.W.Frag} {H : Hp} {Q : VK} {v : V} {d : PyData} {l : List Nat}
end
end Fg
namespace Fg
open PySem PySem.Spec PyProof.Rows L2
theorem eqV_S (m l : List Nat) : eqV (S m) (S l) = decide (m = l) := by
  show ((⟨m.toArray⟩ : Str) == ⟨l.toArray⟩) = _
  rw [Bool.eq_iff_iff]
  simp
theorem inV_S (l : List Nat) : ∀ ms : List (List Nat), inV (S l) (ms.map S) = decide (l ∈ ms)
  | [] => by simp [inV]
  | m :: r => by
    have ih := inV_S l r
    unfold inV at ih ⊢
    rw [List.map_cons, List.any_cons, ih, eqV_S, Bool.eq_iff_iff, Bool.or_eq_true, decide_eq_true_eq, decide_eq_true_eq, decide_eq_true_eq, List.mem_cons]
    exact ⟨fun h => h.imp_left Eq.symm, fun h => h.imp_left Eq.symm⟩
theorem flat_S : ∀ ms : List (List Nat), (ms.map S).all flatV = true
  | [] => rfl
  | m :: r => by rw [List.map_cons, List.all_cons, flat_S r]; rfl
section
variable {K : PySem.W.Frag} {H : Hp} {Q : VK} {p : Addr} {ms : List (List Nat)} {l : List Nat} {v : V}
theorem i_ninS (h : H p = some (.lst (ms.map S))) (q : Q (.bl (!decide (l ∈ ms))) H) : notInP K (S l) (.ref p) H Q :=
  .inr ⟨p, _, rfl, .inl (.inl (.inl h)), rfl, flat_S ms, by rw [if_pos rfl, inV_S]; exact q⟩
end
end Fg
namespace Fg
open PySem PySem.Spec PyProof.Rows L2
section
variable {K : PySem.W.Frag} {σ : L2.St} {A G : Hp} {Q : VK} {te tl : TE} {j : Nat} {p dx t C : Addr} {fs : List (Str × V)} {fl : Str} {xs : List V} {vs : List Nat}
theorem i_ne_same {H : Hp} {x : Str} (q : Q (.bl false) H) : neP K (.str x) (.str x) H Q := by
  show neP K (S x.cps.toList) (S x.cps.toList) H Q
  refine i_ne_str ?_
  rw [decide_eq_true rfl]
  exact q
theorem i_eq_same {H : Hp} {x : Str} (q : Q (.bl true) H) : eqP K (.str x) (.str x) H Q := by
  show eqP K (S x.cps.toList) (S x.cps.toList) H Q
  refine i_eq_str ?_
  rw [decide_eq_true rfl]
  exact q
end
end Fg
namespace Fg
open PySem PySem.Spec PyProof.Rows L2
section
variable {K : PySem.W.Frag} {σ : L2.St} {A G H H' : Hp} {Q : VK} {te tl : TE} {j : Nat} {a : Addr} {xs : List V} {vs : List Nat}
theorem atAll_of : ∀ {l : List V} {ds : List PyData}, l.length = ds.length → (∀ (i : Nat) (v : V) (d : PyData), l[i]? = some v → ds[i]? = some d → At H v d) → AtAll H l ds
  | [], [], _, _ => .nil
  | v :: l, d :: ds, h, k => .cons (k 0 v d rfl rfl) (atAll_of (by simpa using h) fun i v d h1 h2 => k (i + 1) v d h1 h2)
  | [], _ :: _, h, _ => by simp at h
  | _ :: _, [], h, _ => by simp at h
/-- all tuples stay -/
def SmT (H H' : Hp) : Prop := ∀ b xs, H b = some (.tup xs) → H' b = some (.tup xs)
theorem Same.smT (s : Same H H') : SmT H H' := fun b xs e => s _ _ e
theorem SmT.trans {H'' : Hp} (s : SmT H H') (t : SmT H' H'') : SmT H H'' := fun b xs e => t _ _ (s _ _ e)
theorem SmT.put {p : Addr} {xs : List V} {o : HO} (e : H p = some (.lst xs)) : SmT H (upd H p o) := fun b ys h => by
  rw [upd_ne (fun z => by rw [z, e] at h; cases h)]
  exact h
mutual
def noL : PyData → Bool
  | .list _ => false
  | .dict _ => false
  | .tuple ds => noLs ds
  | .none => true
  | .bool _ => true
  | .int _ => true
  | .str _ => true
def noLs : List PyData → Bool
  | [] => true
  | d :: r => noL d && noLs r
end
mutual
theorem At.smT (s : SmT H H') : ∀ (d : PyData) (v : V), At H v d → noL d = true → At H' v d
  | .none, _, h, _ => by cases h; exact .non
  | .bool b, _, h, _ => by cases h; exact .bl b
  | .int i, _, h, _ => by cases h; exact .int i
  | .str x, _, h, _ => by
    cases h with
    | str l hl => exact .str l hl
  | .list ds, _, _, n => by cases n
  | .tuple ds, _, h, n => by
    cases h with
    | tup e l a => exact .tup (s _ _ e) l (AtAll.smT s ds _ a n)
  | .dict kvs, _, _, n => by cases n
theorem AtAll.smT (s : SmT H H') : ∀ (ds : List PyData) (vs : List V), AtAll H vs ds → noLs ds = true → AtAll H' vs ds
  | [], _, h, _ => by cases h; exact .nil
  | d :: ds, _, h, n => by
    have n' : (noL d && noLs ds) = true := n
    rw [Bool.and_eq_true] at n'
    cases h with
    | cons a b => exact .cons (At.smT s d _ a n'.1) (AtAll.smT s ds _ b n'.2)
end
theorem At.keep {v : V} {d : PyData} (h : At H v d) (s : SmT H H') (n : noL d = true) : At H' v d := At.smT s d v h n
theorem AtAll.keep {vs : List V} {ds : List PyData} (h : AtAll H vs ds) (s : SmT H H') (n : noLs ds = true) : AtAll H' vs ds := AtAll.smT s ds vs h n
/-- all but one -/
def wo (H : Hp) (p : Addr) : Hp := fun b => if b = p then none else H b
theorem wo_same {p : Addr} : wo H p p = none := if_pos rfl
theorem wo_ne {p b : Addr} (h : b ≠ p) : wo H p b = H b := if_neg h
theorem SmT.wo {p : Addr} {xs : List V} (e : H p = some (.lst xs)) : SmT H (wo H p) := fun b ys h => by
  rw [wo_ne (fun z => by rw [z, e] at h; cases h)]
  exact h
end
end Fg
namespace Fg
open PySem PySem.Spec PyProof.Rows L2
/-- all but p stands as it did -/
def But (p : Addr) (H H' : Hp) : Prop := ∀ b o, b ≠ p → H b = some o → H' b = some o
theorem But.refl (p : Addr) (H : Hp) : But p H H := fun _ _ _ e => e
theorem But.trans {p : Addr} {H H1 H2 : Hp} (a : But p H H1) (b : But p H1 H2) : But p H H2 := fun c o n e => b c o n (a c o n e)
theorem But.of {p : Addr} {H H' : Hp} (s : Same H H') : But p H H' := fun c o _ e => s c o e
theorem But.put {p : Addr} {H : Hp} {o : HO} : But p H (upd H p o) := fun c o' n e => by rw [upd_ne n]; exact e
end Fg
namespace Fg
open PySem PySem.Spec PyProof.Rows L2
section
variable {X : Cx} {CX : CXT} {k : Nat} {C a dx : Addr} {m : Str} {ps : List Str} {sp : Sp} {ES : L2.St → XK} {dvs : List V} {o e : Expr} {es : List Expr} {to : TE} {ta : TA} {pos apos : PySem.Pos} {σ : L2.St} {H : Hp} {Q : VK} {fs : List (Str × V)}
end
end Fg
namespace Fg
open PySem PySem.Spec PyProof.Rows L2
theorem eqV_I (m l : Int) : eqV (.int m) (.int l) = decide (m = l) := by
  show (m == l) = _
  rw [Bool.beq_eq_decide_eq]
theorem inV_I (l : Int) : ∀ ms : List Int, inV (.int l) (ms.map V.int) = decide (l ∈ ms)
  | [] => by simp [inV]
  | m :: r => by
    have ih := inV_I l r
    unfold inV at ih ⊢
    rw [List.map_cons, List.any_cons, ih, eqV_I, Bool.eq_iff_iff, Bool.or_eq_true, decide_eq_true_eq, decide_eq_true_eq, decide_eq_true_eq, List.mem_cons]
    exact ⟨fun h => h.imp_left Eq.symm, fun h => h.imp_left Eq.symm⟩
theorem flat_I : ∀ ms : List Int, (ms.map V.int).all flatV = true
  | [] => rfl
  | m :: r => by rw [List.map_cons, List.all_cons, flat_I r]; rfl
section
variable {K : PySem.W.Frag} {H : Hp} {Q : VK} {p : Addr} {ms : List Int} {l : Int}
theorem i_inI (h : H p = some (.lst (ms.map V.int))) (q : Q (.bl (decide (l ∈ ms))) H) : inP K (.int l) (.ref p) H Q :=
  .inr ⟨p, _, rfl, .inl (.inl (.inl h)), rfl, flat_I ms, by rw [if_neg (by decide), inV_I]; exact q⟩
end
end Fg
namespace Fg
open PySem PySem.Spec PyProof.Rows L2
def rBoo : RC := fun xs H Q => (∃ i : Int, xs = [.int i] ∧ Q (.bl (i != 0)) H) ∨ ∃ b : Bool, xs = [.bl b] ∧ Q (.bl b) H
theorem cBoo {X : Cx} : CallR X (.type "bool") rBoo := by
  intro pins s σ H xs us Q I r h
  rcases h with ⟨i, rfl, q⟩ | ⟨b, rfl, q⟩
  · obtain ⟨u, us', rfl, ru, rn⟩ : ∃ u us', us = u :: us' ∧ RelV (.int i) u ∧ Vals [] us' := by
      cases r with | cons a b => exact ⟨_, _, rfl, a, b⟩
    cases rn
    obtain ⟨t, rfl⟩ := (show ∃ t, u = Value.int i t from ru)
    exact call_bool_int ⟨.bl (i != 0), H, I, rfl, q⟩
  · obtain ⟨u, us', rfl, ru, rn⟩ : ∃ u us', us = u :: us' ∧ RelV (.bl b) u ∧ Vals [] us' := by
      cases r with | cons a b => exact ⟨_, _, rfl, a, b⟩
    cases rn
    obtain rfl : u = Value.bool b := ru
    exact call_bool_bool ⟨.bl b, H, I, rfl, q⟩
theorem i_booI {H : Hp} {Q : VK} {i : Int} (q : Q (.bl (i != 0)) H) : rBoo [.int i] H Q := .inl ⟨i, rfl, q⟩
end Fg
namespace HT
open PySem PySem.W PySem.Calls PySem.Spec PyProof.Rows
section
variable {prog : Program} {w : World} {A : Around} {E : Value → Shared → Prop} {s : Shared}
theorem adjust_back (n : Nat) : Builtin.Slice.sliceAdjust none none (-1) (n : Int) = ((n : Int) - 1, -1) := by
  unfold Builtin.Slice.sliceAdjust
  rfl
theorem places_back (n : Nat) : Builtin.Slice.slicePlaces ((n : Int) - 1) (-1) (-1) = n := by
  unfold Builtin.Slice.slicePlaces
  have h1 : ¬ ((-1 : Int) > 0) := by omega
  have e : ((n : Int) - 1 - -1 - 1) / (- -1) = (n : Int) - 1 := by
    rw [show (- -1 : Int) = 1 by decide, Int.ediv_one]
    omega
  simp only [h1, if_false, e]
  split <;> omega
theorem fm_congr {α β : Type} {f g : α → Option β} : ∀ {l : List α}, (∀ x ∈ l, f x = g x) → l.filterMap f = l.filterMap g
  | [], _ => rfl
  | x :: r, h => by
    rw [List.filterMap_cons, List.filterMap_cons, h x (List.mem_cons_self ..), fm_congr fun y hy => h y (List.mem_cons_of_mem _ hy)]
theorem sliceApplied_back {sl : Addr} {vs : Value} {n : Nat} {Q : Int × Int × Nat → Shared → Prop} (hs : s.heap.IsSliceOf sl .none .none vs) (ps : IsPart vs (some (-1)))
    (h : Q ((n : Int) - 1, -1, n) s) : wpAny (model prog w) A (Builtin.Slice.sliceApplied (.ref sl) (pure (n : Int))) Q E s := by
  obtain ⟨os, hos, hcs, hds⟩ := id hs
  unfold Builtin.Slice.sliceApplied Builtin.Slice.sliceFields
  refine wpAny_bind (wpAny_bind (wpAny_field hos hds (x := .none) rfl (wpAny_bind (wpAny_field hos hds (x := .none) rfl (wpAny_bind (wpAny_field hos hds (x := vs) rfl (wpAny_pure ?_)))))))
  refine wpAny_bind (slicePart_ ps ?_)
  show wpAny _ _ (if ((-1 : Int) == 0) = true then _ else _) _ _ s
  rw [if_neg (by decide)]
  refine wpAny_bind (slicePart_none (wpAny_bind (slicePart_none (wpAny_bind (wpAny_pure ?_)))))
  show wpAny _ _ (match Builtin.Slice.sliceAdjust none none (-1) (n : Int) with | (lo, hi) => pure (lo, (-1 : Int), Builtin.Slice.slicePlaces lo hi (-1))) _ _ s
  rw [adjust_back n]
  show wpAny _ _ (pure ((n : Int) - 1, (-1 : Int), Builtin.Slice.slicePlaces ((n : Int) - 1) (-1) (-1))) _ _ s
  rw [places_back]
  exact wpAny_pure h
theorem pick_back (xs : Array Value) : ((List.range xs.size).filterMap fun (m : Nat) => xs[(((xs.size : Nat) : Int) - 1 + (m : Int) * (-1)).toNat]?).toArray = xs.toList.reverse.toArray := by
  have e : (List.range xs.size).filterMap (fun (m : Nat) => xs[(((xs.size : Nat) : Int) - 1 + (m : Int) * (-1)).toNat]?) = ((List.range xs.size).map fun k => xs.size - 1 - k).filterMap (xs[·]?) := by
    rw [List.filterMap_map]
    refine fm_congr fun m hm => ?_
    have := List.mem_range.mp hm
    show xs[_]? = xs[xs.size - 1 - m]?
    congr 1
    omega
  rw [e, krv_range, List.filterMap_reverse, krv_all]
theorem getItem_tuple_back {t sl : Addr} {items : Array Value} {vs : Value} {Q : Value → Shared → Prop} (ht : IsTup s.heap t items) (hs : s.heap.IsSliceOf sl .none .none vs) (ps : IsPart vs (some (-1)))
    (h : Q (.ref s.heap.objs.size) { s with heap := s.heap.push { cls := .type "tuple", data := .seq items.toList.reverse.toArray } })
    (hsz : items.size ≤ sizeLine) : wpAny (model prog w) A (getItem (.ref t) (.ref sl)) Q E s := by
  have htake : sizeOk (.seq items.toList.reverse.toArray) := by
    show items.toList.reverse.toArray.size ≤ sizeLine
    rw [List.size_toArray, List.length_reverse, Array.length_toList]
    omega
  obtain ⟨os, hos, hcs, hds⟩ := id hs
  have hTs : s.TypeIs (.ref sl) "slice" := ⟨os, hos, hcs⟩
  unfold getItem
  try with_reducible refine wpAny_holding ?_
  first | refine wpAny_bind (wpAny_pure ?_) | skip
  refine wpAny_bind (wpAny_sequenceKey ht.typeIs (by decide) ?_)
  refine wpAny_bind (wpAny_callSpecial?_slot (name := Str.ofString "__getitem__") ht.typeIs PyProof.Rows.slot_tuple_getitem
    (wpAny_call_entry PyProof.Rows.slot_tuple_getitem ht.typeIs entry_tuple_getitem ?_ (args_tuple_getitem _ _)))
  show wpAny _ _ (Builtin.Tuple.tupleItemsOf (.ref t) >>= _) _ _ s
  refine wpAny_bind (tupleItemsOf_ ht ?_)
  refine wpAny_bind (wpAny_typeOf hTs ?_)
  rw [if_pos (by decide)]
  refine wpAny_bind (sliceApplied_back hs ps ?_)
  have hno : ¬ ((((items.size : Int) - 1) == 0 && (-1 : Int) == 1 && items.size == items.size) = true) := by
    intro q
    rw [Bool.and_eq_true, Bool.and_eq_true] at q
    exact absurd q.1.2 (by decide)
  show wpAny _ _ (if (((items.size : Int) - 1) == 0 && (-1 : Int) == 1 && items.size == items.size) = true then _ else _) _ _ s
  rw [if_neg hno, pick_back]
  first
    | exact wpAny_bind (m := Builtin.Tuple.tupleExact _) (wpAny_newObj_type (wpAny_pure ⟨_, rfl, wpAny_pure h⟩) htake)
    | exact wpAny_bind (m := Builtin.Tuple.tupleExact _) (wpAny_newObj_type (wpAny_bind (wpAny_pure (wpAny_pure ⟨_, rfl, wpAny_pure h⟩))) htake)
    | exact wpAny_bind (wpAny_bind (m := Builtin.Tuple.tupleExact _) (wpAny_newObj_type (wpAny_pure (wpAny_pure ⟨_, rfl, wpAny_pure h⟩)) htake))
    | exact wpAny_bind (wpAny_bind (m := Builtin.Tuple.tupleExact _) (wpAny_newObj_type (wpAny_pure ⟨_, rfl, wpAny_pure h⟩) htake))
end
end HT
namespace Fg
open PySem PySem.Spec PyProof.Rows L2
theorem Vals.rev : ∀ {xs : List V} {us : List Value}, Vals xs us → Vals xs.reverse us.reverse
  | _, _, .nil => .nil
  | x :: xs, u :: us, .cons a b => by
    rw [List.reverse_cons, List.reverse_cons]
    exact (Vals.rev b).append (.cons a .nil)
section
variable {X : Cx} (K : PySem.W.Frag) {e st : Expr} {te : TE} {p2 pos : PySem.Pos}
def tRev (K : PySem.W.Frag) (te : TE) : TE := fun σ H Q => te σ H fun x H1 => (∃ a xs, x = .ref a ∧ SqL K H1 a xs ∧ ∀ p, H1 p = none → Q (.ref p) (upd H1 p (.lst xs.reverse))) ∨ (∃ a xs, x = .ref a ∧ SqT K H1 a xs ∧ ∀ p, H1 p = none → Q (.ref p) (upd H1 p (.tup xs.reverse)))
theorem pe_rev (he : PE X e te) (hst : PO X (some st) (tPart (tUn (rU fun i => .int (-i)) (tC (.int 1))))) (hK : X.K = K := by rfl) : PE X (.Subscript e (.Slice none none (some st) p2) pos) (tRev K te) := by
  subst hK
  refine ⟨fun pins s σ H Q I h => ?_⟩
  refine Subscript_ (thn (he.run pins s σ H _ I h) fun v s1 ⟨x, H1, I1, r1, q1⟩ => ?_)
  refine wpAny_Slice ?_
  rw [evalPart_none]
  refine wpAny_pure ?_
  refine wpAny_pure ?_
  refine thn (hst.run pins s1 σ H1 (fun o H' => o = some (-1) ∧ H' = H1) I1 ⟨1, rfl, -1, rfl, rfl, rfl⟩) fun vs s2 ⟨o, H2, I2, ps, e1, e2⟩ => ?_
  subst e1 e2
  have I3 : Inv X pins σ H2 { s2 with heap := s2.heap.push { cls := .type "slice", data := .fields #[.none, .none, vs] } } := I2.kept (t' := s2.toks) fun b ob q => Heap.get?_push_of_some _ q
  have hs : ({ s2 with heap := s2.heap.push { cls := .type "slice", data := .fields #[.none, .none, vs] } } : Shared).heap.IsSliceOf s2.heap.objs.size .none .none vs := Heap.IsSliceOf.new ..
  generalize ({ s2 with heap := s2.heap.push { cls := .type "slice", data := .fields #[.none, .none, vs] } } : Shared) = s3 at *
  generalize s2.heap.objs.size = sl at *
  show wpAny (model X.prog X.w) X.A (subscriptTail e (.Slice none none (some st) p2) v (.ref sl)) (EP X pins σ Q) X.xe s3
  rcases q1 with ⟨a, xs, rfl, hx, q⟩ | ⟨a, xs, rfl, hx, q⟩
  · cases r1
    obtain ⟨its, r, ht, hz⟩ := I3.list hx
    refine tail_any (ops := [.ref a, .ref sl]) ht.isList.typeIs slot_list_getitem.lookup ?_ (by with_unfolding_all rfl)
    have hlen := r.length
    refine wpAny_getItem_list_slice ht.isList hs .none .none ps (by decide) ?_ (by rw [List.size_toArray]; omega)
    rw [PySem.W.krv_pick]
    refine ⟨.ref s3.heap.objs.size, _, I3.laid (t' := s3.toks) (o := .lst xs.reverse) (fun b ob q => Heap.get?_push_of_some _ q) (Nat.le_refl _) ?_, rfl, q _ (I3.hok.fresh (Nat.le_refl _))⟩
    exact ⟨by rw [List.length_reverse]; exact hz, _, 0, Vals.rev r, Heap.get?_push_size _ rfl⟩
  · cases r1
    obtain ⟨its, r, ht, hz⟩ := I3.tuple hx
    refine tail_any (ops := [.ref a, .ref sl]) ht.typeIs PyProof.Rows.slot_tuple_getitem.lookup ?_ (by with_unfolding_all rfl)
    have hlen := r.length
    refine HT.getItem_tuple_back ht hs ps ?_ (by rw [List.size_toArray]; omega)
    refine ⟨.ref s3.heap.objs.size, _, I3.laid (t' := s3.toks) (o := .tup xs.reverse) (fun b ob q => Heap.get?_push_of_some _ q) (Nat.le_refl _) ?_, rfl, q _ (I3.hok.fresh (Nat.le_refl _))⟩
    exact ⟨by rw [List.length_reverse]; exact hz, _, Vals.rev r, IsTup.new _ _⟩
end
section
variable {K : PySem.W.Frag} {σ : L2.St} {H : Hp} {Q : VK} {te : TE} {a : Addr} {xs : List V} {B : Prop}
theorem i_rev (q : te σ H fun x H1 => (∃ a xs, x = .ref a ∧ SqL K H1 a xs ∧ ∀ p, H1 p = none → Q (.ref p) (upd H1 p (.lst xs.reverse))) ∨ (∃ a xs, x = .ref a ∧ SqT K H1 a xs ∧ ∀ p, H1 p = none → Q (.ref p) (upd H1 p (.tup xs.reverse)))) : tRev K te σ H Q := q
theorem i_revL {P : List V → Prop} (h : SqL K H a xs) (q : P xs) : (∃ a' xs', V.ref a = .ref a' ∧ SqL K H a' xs' ∧ P xs') ∨ B := .inl ⟨a, xs, rfl, h, q⟩
end
end Fg
namespace Fg
open PySem PySem.Spec PyProof.Rows L2
section
variable {H H' H'' G : Hp} {b : Addr} {o : HO} {v : V} {d : PyData} {vs : List V} {ds : List PyData}
end
def listD : PyData → PyData
  | .list ds => .list (listDs ds)
  | .tuple ds => .list (listDs ds)
  | d => d
where listDs : List PyData → List PyData
  | [] => []
  | d :: r => listD d :: listDs r
section
variable {K : PySem.W.Frag} {σ : L2.St} {G : Hp} {Q : VK} {te tl : TE} {j : Nat} {a : Addr} {xs : List V} {vs : List Nat}
end
end Fg
namespace Fg
open PySem PySem.Spec PyProof.Rows L2
structure Alk (e d : PyData) : Prop where
  cl : e.canLay0 = d.canLay0
  dp : e.depth = d.depth
  sh : e.showable = d.showable
  lv : e.leavesShort 400 = d.leavesShort 400
  bk : e.bulk = d.bulk
  dd : deepD e = deepD d
structure AlkA (es ds : List PyData) : Prop where
  cl : PyData.canLayAll0 es = PyData.canLayAll0 ds
  dp : PyData.depthAll es = PyData.depthAll ds
  sh : PyData.showableAll es = PyData.showableAll ds
  lv : PyData.leavesShortAll 400 es = PyData.leavesShortAll 400 ds
  bk : PyData.bulkAll es = PyData.bulkAll ds
  dd : deepD.deepDs es = deepD.deepDs ds
theorem Alk.refl (d : PyData) : Alk d d := ⟨rfl, rfl, rfl, rfl, rfl, rfl⟩
theorem AlkA.cons {e d : PyData} {es ds : List PyData} (h : Alk e d) (t : AlkA es ds) : AlkA (e :: es) (d :: ds) := by
  refine ⟨?_, ?_, ?_, ?_, ?_, ?_⟩
  · simp only [PyData.canLayAll0]; rw [h.cl, t.cl]
  · simp only [PyData.depthAll]; rw [h.dp, t.dp]
  · simp only [PyData.showableAll]; rw [h.sh, t.sh]
  · simp only [PyData.leavesShortAll]; rw [h.lv, t.lv]
  · simp only [PyData.bulkAll]; rw [h.bk, t.bk]
  · show deepD e :: deepD.deepDs es = deepD d :: deepD.deepDs ds
    rw [h.dd, t.dd]
theorem alk_ll {es ds : List PyData} (h : AlkA es ds) : Alk (.list es) (.list ds) := by
  refine ⟨?_, ?_, ?_, ?_, ?_, ?_⟩
  · simp only [PyData.canLay0]; exact h.cl
  · simp only [PyData.depth]; rw [h.dp]
  · simp only [PyData.showable]; exact h.sh
  · simp only [PyData.leavesShort]; exact h.lv
  · simp only [PyData.bulk]; exact h.bk
  · show PyData.tuple (deepD.deepDs es) = .tuple (deepD.deepDs ds)
    rw [h.dd]
theorem alk_lt {es ds : List PyData} (h : AlkA es ds) : Alk (.list es) (.tuple ds) := by
  refine ⟨?_, ?_, ?_, ?_, ?_, ?_⟩
  · simp only [PyData.canLay0]; exact h.cl
  · simp only [PyData.depth]; rw [h.dp]
  · simp only [PyData.showable]; exact h.sh
  · simp only [PyData.leavesShort]; exact h.lv
  · simp only [PyData.bulk]; exact h.bk
  · show PyData.tuple (deepD.deepDs es) = .tuple (deepD.deepDs ds)
    rw [h.dd]
theorem Alk.symm {e d : PyData} (h : Alk e d) : Alk d e := ⟨h.cl.symm, h.dp.symm, h.sh.symm, h.lv.symm, h.bk.symm, h.dd.symm⟩
theorem AlkA.symm {e d : List PyData} (h : AlkA e d) : AlkA d e := ⟨h.cl.symm, h.dp.symm, h.sh.symm, h.lv.symm, h.bk.symm, h.dd.symm⟩
theorem alk_tt {es ds : List PyData} (h : AlkA es ds) : Alk (.tuple es) (.tuple ds) := by
  refine ⟨?_, ?_, ?_, ?_, ?_, ?_⟩
  · simp only [PyData.canLay0]; exact h.cl
  · simp only [PyData.depth]; rw [h.dp]
  · simp only [PyData.showable]; exact h.sh
  · simp only [PyData.leavesShort]; exact h.lv
  · simp only [PyData.bulk]; exact h.bk
  · show PyData.tuple (deepD.deepDs es) = .tuple (deepD.deepDs ds)
    rw [h.dd]
mutual
theorem alk_list : ∀ d : PyData, Alk (listD d) d
  | .none => .refl _
  | .bool _ => .refl _
  | .int _ => .refl _
  | .str _ => .refl _
  | .list ds => alk_ll (alk_lists ds)
  | .tuple ds => alk_lt (alk_lists ds)
  | .dict _ => .refl _
theorem alk_lists : ∀ ds : List PyData, AlkA (listD.listDs ds) ds
  | [] => ⟨rfl, rfl, rfl, rfl, rfl, rfl⟩
  | d :: r => .cons (alk_list d) (alk_lists r)
end
mutual
theorem alk_deep : ∀ d : PyData, Alk (deepD d) d
  | .none => .refl _
  | .bool _ => .refl _
  | .int _ => .refl _
  | .str _ => .refl _
  | .list ds => (alk_lt (alk_deeps ds).symm).symm
  | .tuple ds => alk_tt (alk_deeps ds)
  | .dict _ => .refl _
theorem alk_deeps : ∀ ds : List PyData, AlkA (deepD.deepDs ds) ds
  | [] => ⟨rfl, rfl, rfl, rfl, rfl, rfl⟩
  | d :: r => .cons (alk_deep d) (alk_deeps r)
end
theorem Alk.rp {e d : PyData} {m : Nat} (a : Alk e d) (h : Rp m d) : Rp m e := ⟨a.sh.trans h.sh, a.lv.trans h.lv, by rw [a.bk]; exact h.bk⟩
end Fg
namespace Fg
open PySem PySem.Spec PyProof.Rows L2
def KD (n : Nat) (H : Hp) (a : Addr) (g : List Key → Option V) : Prop := ∃ kvs : List (List Key × V), H a = some (.dT kvs) ∧ kvs.length ≤ n ∧ ∀ k, valV kvs k = g k
def setKd (g : List Key → Option V) (k : List Key) (v : V) : List Key → Option V := fun j => if j = k then some v else g j
section
variable {n m : Nat} {H H' : Hp} {a b : Addr} {g : List Key → Option V} {k : List Key} {v : V}
theorem KD.mono (h : KD n H a g) (s : Same H H') : KD n H' a g := by
  obtain ⟨kvs, h1, h2⟩ := h
  exact ⟨kvs, s _ _ h1, h2⟩
theorem KD.at (h : KD n H a g) (e : H' a = H a) : KD n H' a g := by
  obtain ⟨kvs, h1, h2⟩ := h
  exact ⟨kvs, e.trans h1, h2⟩
theorem KD.some (h : KD n H a g) : ∃ o, H a = some o := let ⟨_, e, _⟩ := h; ⟨_, e⟩
theorem KD.le (h : KD n H a g) (l : n ≤ m) : KD m H a g := let ⟨kvs, e, z, q⟩ := h; ⟨kvs, e, Nat.le_trans z l, q⟩
theorem KD.new : KD 0 (upd H a (.dT [])) a fun _ => none := ⟨[], upd_same, Nat.le_refl _, fun _ => rfl⟩
theorem KD.ex (h : KD n H a g) : ∃ o, H a = Option.some (.dT o) := let ⟨kvs, e, _⟩ := h; ⟨kvs, e⟩
theorem kd_askT {P : Option V → Prop} (h : KD n H a g) (hb : H b = Option.some (.tup (k.map kV))) (q : P (g k)) : ∃ a' o, V.ref a = .ref a' ∧ DGet H a' (.ref b) o ∧ P o := by
  obtain ⟨kvs, h1, _, h3⟩ := h
  exact ⟨a, g k, rfl, h3 k ▸ DGet.t h1 hb, q⟩
theorem kd_get {P : V → Prop} (h : KD n H a g) (hb : H b = Option.some (.tup (k.map kV))) (e : g k = Option.some v) (q : P v) : ∃ a' v', V.ref a = .ref a' ∧ DGet H a' (.ref b) (Option.some v') ∧ P v' := by
  obtain ⟨kvs, h1, _, h3⟩ := h
  exact ⟨a, v, rfl, e ▸ h3 k ▸ DGet.t h1 hb, q⟩
theorem kd_dput (h : KD n H a g) (hb : H b = Option.some (.tup (k.map kV))) (hn : n ≤ 100000) : ∃ o, DPut H a (.ref b) v (upd H a o) ∧ KD (n + 1) (upd H a o) a (setKd g k v) := by
  obtain ⟨kvs, h1, h2, h3⟩ := h
  refine ⟨_, DPut.t h1 hb (by rw [sizeLine_eq]; omega), _, upd_same, Nat.le_trans (putK_len _ _ _) (by omega), fun j => ?_⟩
  rw [valV_put, h3]
  rfl
theorem kd_put {P : Hp → Prop} (h : KD n H a g) (hb : H b = Option.some (.tup (k.map kV))) (hn : n ≤ 100000) (q : ∀ o, KD (n + 1) (upd H a o) a (setKd g k v) → P (upd H a o)) : ∃ a' H4, V.ref a = .ref a' ∧ DPut H a' (.ref b) v H4 ∧ P H4 := by
  obtain ⟨o, d, z⟩ := kd_dput (v := v) h hb hn
  exact ⟨a, _, rfl, d, q o z⟩
/-- {k: v} -/
theorem kd_disp {Q : VK} (e : H a = Option.some (.dT [])) (hb : H b = Option.some (.tup (k.map kV))) (q : ∀ o, KD 1 (upd H a o) a (setKd (fun _ => none) k v) → Q (.ref a) (upd H a o)) : Dsp1 a Q [(.ref b, v)] H := by
  obtain ⟨o, d, z⟩ := kd_dput (v := v) (⟨[], e, Nat.le_refl _, fun _ => rfl⟩ : KD 0 H a fun _ => none) hb (by decide)
  exact dsp1 e d (q o z)
end
end Fg
namespace Fg
inductive Od where
  | wait (s : List Nat) (n : Nat)
  | count (s t : List Nat) (n : Nat)
  | pass (n : Nat)
  | more (n l : Nat)
  | last (s : List Nat) (l : Nat)
  | go (l : Nat)
  | name (w : List Nat)
  | skip
/-- (line, beats, inside, count, last), or the end with a word (none: nothing was said) -/
inductive Sit where
  | at (line beats inside cnt : Nat) (l : Option Nat)
  | over (w : Option (List Nat))
def jmp : Od → Nat → Option Nat → Option Nat
  | .more n l, c, _ => if n ≤ c then some l else none
  | .last s l, _, some x => if x ∈ s then some l else none
  | .go l, _, _ => some l
  | _, _, _ => none
def beatL : Od → Option Nat
  | .wait _ _ => some 0
  | .count _ _ _ => some 0
  | .pass n => some n
  | _ => none
def cnt0 : Od → Nat → Nat
  | .count _ _ _, _ => 0
  | _, c => c
def arr (os : List Od) : Nat → List Nat → Nat → Nat → Option Nat → Sit
  | 0, _, _, _, _ => .over none
  | f + 1, been, line, c, l => match os[line]? with
    | none => .over none
    | some o => if line ∈ been then .over none else match o with
      | .name w => .over (some w)
      | o => match beatL o with
        | some b => .at line b 0 (cnt0 o c) l
        | none => arr os f (line :: been) ((jmp o c l).getD (line + 1)) c l
/-- the signs that end a line, how many of them -/
def stop : Od → List Nat × Nat
  | .wait s n => (s, n)
  | .count _ t n => (t, n)
  | _ => ([], 0)
def led (os : List Od) : Sit → Nat → Sit
  | .over w, _ => .over w
  | .at line b i c _, x => match os[line]? with
    | none => .over none
    | some (.pass _) => if 1 < b then .at line (b - 1) 0 c (some x) else arr os (os.length + 1) [] (line + 1) c (some x)
    | some (.count s t n) =>
      let c' := if x ∈ s then (if i = 0 then min (c + 1) 9 else c) else c
      let i' := if x ∈ s then 1 else 0
      let b' := if x ∈ t then b + 1 else 0
      if b' = n then arr os (os.length + 1) [] (line + 1) c' (some x) else .at line b' i' c' (some x)
    | some (.wait t n) =>
      let b' := if x ∈ t then b + 1 else 0
      if b' = n then arr os (os.length + 1) [] (line + 1) c (some x) else .at line b' i c (some x)
    | some _ => .over none
/-- numbers of lines that wait are positive -/
def posO : Od → Prop
  | .wait _ n => 1 ≤ n
  | .count _ _ n => 1 ≤ n
  | .pass n => 1 ≤ n
  | _ => True
section
variable {os : List Od} {look : List Nat}
theorem nodup_le : ∀ {n : Nat} {l : List Nat}, l.Nodup → (∀ b ∈ l, b < n) → l.length ≤ n
  | 0, [], _, _ => Nat.le_refl _
  | 0, b :: l, _, h => absurd (h b (List.mem_cons_self ..)) (Nat.not_lt_zero _)
  | n + 1, l, nd, h => by
    have h1 : (l.erase n).length ≤ n := nodup_le (nd.erase n) fun b hb => by
      have hb' := (List.Nodup.mem_erase_iff nd).mp hb
      have := h b hb'.2
      have := hb'.1
      omega
    rw [List.length_erase] at h1
    split at h1 <;> omega
end
end Fg
namespace K47
open PySem PySem.Spec PyProof.Rows L2 Fg
def topS (i : Nat) : Stmt := PySem.Challenge.pw_falseglim_k47_judged_readers.main.body.getD i (.Pass ⟨0, 0, 0, 0⟩)
abbrev s_is_integer : Stmt := topS 9
theorem sc_is_integer : FnScope ["thing", "low", "high"] ["thing", "low", "high"] (defScope s_is_integer) := ⟨rfl, rfl, rfl, by decide +kernel, rfl, by decide +kernel, by decide +kernel⟩
abbrev s_deep : Stmt := topS 10
theorem sc_deep : FnScope ["thing", "level", "part"] ["thing", "level"] (defScope s_deep) := ⟨rfl, rfl, rfl, by decide +kernel, rfl, by decide +kernel, by decide +kernel⟩
abbrev s_wrong_sign : Stmt := topS 11
abbrev s_is_mark : Stmt := topS 12
theorem sc_is_mark : FnScope ["thing", "sign"] ["thing"] (defScope s_is_mark) := ⟨rfl, rfl, rfl, by decide +kernel, rfl, by decide +kernel, by decide +kernel⟩
abbrev s_check_row : Stmt := topS 13
abbrev s_is_reader_state : Stmt := topS 16
theorem sc_is_reader_state : FnScope ["thing", "many", "nexts", "state"] ["thing", "many"] (defScope s_is_reader_state) := ⟨rfl, rfl, rfl, by decide +kernel, rfl, by decide +kernel, by decide +kernel⟩
abbrev s_Reader___init__ : Stmt := inClass (topS 17) 0
theorem sc_Reader___init__ : FnScope ["self", "rows", "told", "number", "row"] ["self", "rows"] (defScope s_Reader___init__) := ⟨rfl, rfl, rfl, by decide +kernel, rfl, by decide +kernel, by decide +kernel⟩
abbrev s_Reader___len__ : Stmt := inClass (topS 17) 1
abbrev s_Reader___iter__ : Stmt := inClass (topS 17) 2
abbrev s_Reader___eq__ : Stmt := inClass (topS 17) 3
abbrev s_Reader___call__ : Stmt := inClass (topS 17) 4
abbrev s_words_at : Stmt := topS 19
theorem sc_words_at : FnScope ["first", "second", "pair"] ["first", "second", "pair"] (defScope s_words_at) := ⟨rfl, rfl, rfl, by decide +kernel, rfl, by decide +kernel, by decide +kernel⟩
abbrev s_pair_behind : Stmt := topS 20
theorem sc_pair_behind : FnScope ["first", "second", "pair", "place"] ["first", "second", "pair", "place"] (defScope s_pair_behind) := ⟨rfl, rfl, rfl, by decide +kernel, rfl, by decide +kernel, by decide +kernel⟩
abbrev s_is_state_pair : Stmt := topS 21
theorem sc_is_state_pair : FnScope ["first", "second", "thing"] ["first", "second", "thing"] (defScope s_is_state_pair) := ⟨rfl, rfl, rfl, by decide +kernel, rfl, by decide +kernel, by decide +kernel⟩
abbrev s_is_right_row : Stmt := topS 22
theorem sc_is_right_row : FnScope ["first", "second", "pair", "there", "place", "other", "words"] ["first", "second", "pair", "there"] (defScope s_is_right_row) := ⟨rfl, rfl, rfl, by decide +kernel, rfl, by decide +kernel, by decide +kernel⟩
abbrev s_judge_readers : Stmt := topS 23
theorem sc_judge_readers : FnScope ["first", "second", "table", "rows", "there", "words", "number", "row"] ["first", "second", "table"] (defScope s_judge_readers) := ⟨rfl, rfl, rfl, by decide +kernel, rfl, by decide +kernel, by decide +kernel⟩
abbrev s_L_draw : Stmt := topS 25
theorem sc_L_draw : FnScope ["_law_script", "_law_cells", "_law_cell"] ["_law_script"] (defScope s_L_draw) := ⟨rfl, rfl, rfl, by decide +kernel, rfl, by decide +kernel, by decide +kernel⟩
abbrev s_L_mix : Stmt := topS 26
theorem sc_L_mix : FnScope ["_law_cell", "_law_turn", "_law_one", "_law_two_here"] ["_law_cell", "_law_turn"] (defScope s_L_mix) := ⟨rfl, rfl, rfl, by decide +kernel, rfl, by decide +kernel, by decide +kernel⟩
abbrev s_L_pick : Stmt := topS 27
theorem sc_L_pick : FnScope ["_law_draw_here", "_law_many", "_law_cell", "_law_digit", "_law_found"] ["_law_draw_here", "_law_many"] (defScope s_L_pick) := ⟨rfl, rfl, rfl, by decide +kernel, rfl, by decide +kernel, by decide +kernel⟩
abbrev s_L_is_int : Stmt := topS 28
theorem sc_L_is_int : FnScope ["_law_thing"] ["_law_thing"] (defScope s_L_is_int) := ⟨rfl, rfl, rfl, by decide +kernel, rfl, by decide +kernel, by decide +kernel⟩
abbrev s_L_name : Stmt := topS 29
theorem sc_L_name : FnScope ["_law_draw_here", "_law_used", "_law_pool", "_law_one", "_law_two_here"] ["_law_draw_here", "_law_used"] (defScope s_L_name) := ⟨rfl, rfl, rfl, by decide +kernel, rfl, by decide +kernel, by decide +kernel⟩
abbrev s_L_names : Stmt := topS 30
theorem sc_L_names : FnScope ["_law_draw_here", "_law_many", "_law_names_here", "_law_turn"] ["_law_draw_here", "_law_many"] (defScope s_L_names) := ⟨rfl, rfl, rfl, by decide +kernel, rfl, by decide +kernel, by decide +kernel⟩
abbrev s_L_signs : Stmt := topS 31
theorem sc_L_signs : FnScope ["_law_draw_here", "_law_kind", "_law_number", "_law_place"] ["_law_draw_here"] (defScope s_L_signs) := ⟨rfl, rfl, rfl, by decide +kernel, rfl, by decide +kernel, by decide +kernel⟩
abbrev s_L_order : Stmt := topS 32
theorem sc_L_order : FnScope ["_law_draw_here", "_law_many", "_law_names_here", "_law_top", "_law_kind"] ["_law_draw_here", "_law_many", "_law_names_here", "_law_top"] (defScope s_L_order) := ⟨rfl, rfl, rfl, by decide +kernel, rfl, by decide +kernel, by decide +kernel⟩
abbrev s_L_lines : Stmt := topS 33
theorem sc_L_lines : FnScope ["_law_draw_here", "_law_most", "_law_names_here", "_law_top", "_law_lines_here", "_law_many", "_law_kind", "_law_turn"] ["_law_draw_here", "_law_most", "_law_names_here", "_law_top"] (defScope s_L_lines) := ⟨rfl, rfl, rfl, by decide +kernel, rfl, by decide +kernel, by decide +kernel⟩
abbrev s_L_settled : Stmt := topS 34
theorem sc_L_settled : FnScope ["_law_lines_here", "_law_place", "_law_count", "_law_last", "_law_been", "_law_turn", "_law_line"] ["_law_lines_here", "_law_place", "_law_count", "_law_last"] (defScope s_L_settled) := ⟨rfl, rfl, rfl, by decide +kernel, rfl, by decide +kernel, by decide +kernel⟩
abbrev s_L_stepped : Stmt := topS 35
theorem sc_L_stepped : FnScope ["_law_lines_here", "_law_thing", "_law_sign", "_law_line", "_law_beats", "_law_inside", "_law_count"] ["_law_lines_here", "_law_thing", "_law_sign"] (defScope s_L_stepped) := ⟨rfl, rfl, rfl, by decide +kernel, rfl, by decide +kernel, by decide +kernel⟩
abbrev s_L_rows_of : Stmt := topS 36
theorem sc_L_rows_of : FnScope ["_law_lines_here", "_law_most", "_law_things", "_law_numbers", "_law_rows", "_law_spot", "_law_nexts", "_law_sign", "_law_after", "_law_word"] ["_law_lines_here", "_law_most"] (defScope s_L_rows_of) := ⟨rfl, rfl, rfl, by decide +kernel, rfl, by decide +kernel, by decide +kernel⟩
abbrev s_L_reader : Stmt := topS 37
theorem sc_L_reader : FnScope ["_law_draw_here", "_law_most", "_law_names_here", "_law_many", "_law_rows", "_law_state", "_law_word", "_law_turn"] ["_law_draw_here", "_law_most", "_law_names_here"] (defScope s_L_reader) := ⟨rfl, rfl, rfl, by decide +kernel, rfl, by decide +kernel, by decide +kernel⟩
abbrev s_L_twin : Stmt := topS 38
theorem sc_L_twin : FnScope ["_law_draw_here", "_law_rows", "_law_many", "_law_found", "_law_turn", "_law_row", "_law_nexts", "_law_state"] ["_law_draw_here", "_law_rows"] (defScope s_L_twin) := ⟨rfl, rfl, rfl, by decide +kernel, rfl, by decide +kernel, by decide +kernel⟩
abbrev s_L_changed : Stmt := topS 39
theorem sc_L_changed : FnScope ["_law_draw_here", "_law_rows", "_law_names_here", "_law_found", "_law_place", "_law_word", "_law_nexts", "_law_row"] ["_law_draw_here", "_law_rows", "_law_names_here"] (defScope s_L_changed) := ⟨rfl, rfl, rfl, by decide +kernel, rfl, by decide +kernel, by decide +kernel⟩
abbrev s_L_two : Stmt := topS 40
theorem sc_L_two : FnScope ["_law_draw_here", "_law_names_here", "_law_one", "_law_kind", "_law_two_here", "_law_change"] ["_law_draw_here", "_law_names_here"] (defScope s_L_two) := ⟨rfl, rfl, rfl, by decide +kernel, rfl, by decide +kernel, by decide +kernel⟩
abbrev s_L_compared : Stmt := topS 41
theorem sc_L_compared : FnScope ["_law_one", "_law_two_here", "_law_most", "_law_pairs", "_law_looks", "_law_parted", "_law_spot", "_law_pair", "_law_place", "_law_after", "_law_first", "_law_second"] ["_law_one", "_law_two_here", "_law_most"] (defScope s_L_compared) := ⟨rfl, rfl, rfl, by decide +kernel, rfl, by decide +kernel, by decide +kernel⟩
abbrev s_L_is_pair : Stmt := topS 42
theorem sc_L_is_pair : FnScope ["_law_one", "_law_two_here", "_law_thing"] ["_law_one", "_law_two_here", "_law_thing"] (defScope s_L_is_pair) := ⟨rfl, rfl, rfl, by decide +kernel, rfl, by decide +kernel, by decide +kernel⟩
abbrev s_L_is_closed : Stmt := topS 43
theorem sc_L_is_closed : FnScope ["_law_one", "_law_two_here", "_law_pair", "_law_there", "_law_place", "_law_after"] ["_law_one", "_law_two_here", "_law_pair", "_law_there"] (defScope s_L_is_closed) := ⟨rfl, rfl, rfl, by decide +kernel, rfl, by decide +kernel, by decide +kernel⟩
abbrev s_L_judged : Stmt := topS 44
theorem sc_L_judged : FnScope ["_law_one", "_law_two_here", "_law_table", "_law_there", "_law_row", "_law_number"] ["_law_one", "_law_two_here", "_law_table"] (defScope s_L_judged) := ⟨rfl, rfl, rfl, by decide +kernel, rfl, by decide +kernel, by decide +kernel⟩
abbrev s_L_odd_row : Stmt := topS 45
theorem sc_L_odd_row : FnScope ["_law_draw_here", "_law_one", "_law_two_here", "_law_pair", "_law_kind", "_law_state", "_law_found", "_law_other"] ["_law_draw_here", "_law_one", "_law_two_here", "_law_pair"] (defScope s_L_odd_row) := ⟨rfl, rfl, rfl, by decide +kernel, rfl, by decide +kernel, by decide +kernel⟩
abbrev s_L_spoilt : Stmt := topS 46
theorem sc_L_spoilt : FnScope ["_law_draw_here", "_law_one", "_law_two_here", "_law_table", "_law_place", "_law_kind", "_law_near", "_law_odd"] ["_law_draw_here", "_law_one", "_law_two_here", "_law_table"] (defScope s_L_spoilt) := ⟨rfl, rfl, rfl, by decide +kernel, rfl, by decide +kernel, by decide +kernel⟩
abbrev s_law : Stmt := topS 47
theorem sc_law : FnScope ["_law_script", "_law_draw_here", "_law_names_here", "_law_one", "_law_two_here", "_law_first", "_law_second", "_law_pairs", "_law_tables", "_law_turn", "_law_table", "_law_before", "_law_due", "_law_row", "_law_pair"] ["_law_script"] (defScope s_law) := ⟨rfl, rfl, rfl, by decide +kernel, rfl, by decide +kernel, by decide +kernel⟩
abbrev s_BadRow : Stmt := inClass (topS 2) 0
abbrev s_BadReader : Stmt := inClass (topS 3) 0
theorem sc_BadReader : FnScope ["self", "number"] ["self", "number"] (defScope s_BadReader) := ⟨rfl, rfl, rfl, by decide +kernel, rfl, by decide +kernel, by decide +kernel⟩
/-- what the top has written -/
structure Txt (K : PySem.W.Frag) (mg : Str → Option Value) (C_GlimError : Addr) (C_BadRow : Addr) (C_BadReader : Addr) (C_Reader : Addr) : Prop where
  d_is_integer : DefIn K mg "is_integer" s_is_integer ["thing", "low", "high"]
  d_deep : DefD K mg "deep" s_deep ["thing", "level"] [.int (0)]
  d_wrong_sign : DefIn K mg "wrong_sign" s_wrong_sign ["row"]
  d_is_mark : DefIn K mg "is_mark" s_is_mark ["thing"]
  d_check_row : DefD K mg "check_row" s_check_row ["thing", "most"] [.int (400)]
  d_is_reader_state : DefIn K mg "is_reader_state" s_is_reader_state ["thing", "many"]
  m_Reader___init__ : MkIn K mg "Reader" "Reader.__init__" C_Reader s_Reader___init__ ["self", "rows"] []
  m_Reader___len__ : MetIn K C_Reader "__len__" "Reader.__len__" s_Reader___len__ ["self"] []
  m_Reader___iter__ : MetIn K C_Reader "__iter__" "Reader.__iter__" s_Reader___iter__ ["self"] []
  m_Reader___eq__ : MetIn K C_Reader "__eq__" "Reader.__eq__" s_Reader___eq__ ["self", "other"] []
  m_Reader___call__ : MetIn K C_Reader "__call__" "Reader.__call__" s_Reader___call__ ["self", "look"] []
  d_words_at : DefIn K mg "words_at" s_words_at ["first", "second", "pair"]
  d_pair_behind : DefIn K mg "pair_behind" s_pair_behind ["first", "second", "pair", "place"]
  d_is_state_pair : DefIn K mg "is_state_pair" s_is_state_pair ["first", "second", "thing"]
  d_is_right_row : DefIn K mg "is_right_row" s_is_right_row ["first", "second", "pair", "there"]
  d_judge_readers : DefIn K mg "judge_readers" s_judge_readers ["first", "second", "table"]
  d_L_draw : DefIn K mg "_law_draw" s_L_draw ["_law_script"]
  d_L_mix : DefIn K mg "_law_mix" s_L_mix ["_law_cell", "_law_turn"]
  d_L_pick : DefIn K mg "_law_pick" s_L_pick ["_law_draw_here", "_law_many"]
  d_L_is_int : DefIn K mg "_law_is_int" s_L_is_int ["_law_thing"]
  d_L_name : DefIn K mg "_law_name" s_L_name ["_law_draw_here", "_law_used"]
  d_L_names : DefIn K mg "_law_names" s_L_names ["_law_draw_here", "_law_many"]
  d_L_signs : DefIn K mg "_law_signs" s_L_signs ["_law_draw_here"]
  d_L_order : DefIn K mg "_law_order" s_L_order ["_law_draw_here", "_law_many", "_law_names_here", "_law_top"]
  d_L_lines : DefIn K mg "_law_lines" s_L_lines ["_law_draw_here", "_law_most", "_law_names_here", "_law_top"]
  d_L_settled : DefIn K mg "_law_settled" s_L_settled ["_law_lines_here", "_law_place", "_law_count", "_law_last"]
  d_L_stepped : DefIn K mg "_law_stepped" s_L_stepped ["_law_lines_here", "_law_thing", "_law_sign"]
  d_L_rows_of : DefIn K mg "_law_rows_of" s_L_rows_of ["_law_lines_here", "_law_most"]
  d_L_reader : DefIn K mg "_law_reader" s_L_reader ["_law_draw_here", "_law_most", "_law_names_here"]
  d_L_twin : DefIn K mg "_law_twin" s_L_twin ["_law_draw_here", "_law_rows"]
  d_L_changed : DefIn K mg "_law_changed" s_L_changed ["_law_draw_here", "_law_rows", "_law_names_here"]
  d_L_two : DefIn K mg "_law_two" s_L_two ["_law_draw_here", "_law_names_here"]
  d_L_compared : DefIn K mg "_law_compared" s_L_compared ["_law_one", "_law_two_here", "_law_most"]
  d_L_is_pair : DefIn K mg "_law_is_pair" s_L_is_pair ["_law_one", "_law_two_here", "_law_thing"]
  d_L_is_closed : DefIn K mg "_law_is_closed" s_L_is_closed ["_law_one", "_law_two_here", "_law_pair", "_law_there"]
  d_L_judged : DefIn K mg "_law_judged" s_L_judged ["_law_one", "_law_two_here", "_law_table"]
  d_L_odd_row : DefIn K mg "_law_odd_row" s_L_odd_row ["_law_draw_here", "_law_one", "_law_two_here", "_law_pair"]
  d_L_spoilt : DefIn K mg "_law_spoilt" s_L_spoilt ["_law_draw_here", "_law_one", "_law_two_here", "_law_table"]
  d_law : DefIn K mg "law" s_law ["_law_script"]
  b_abs : mg "abs" = none
  b_bool : mg "bool" = none
  b_enumerate : mg "enumerate" = none
  b_int : mg "int" = none
  b_isinstance : mg "isinstance" = none
  b_iter : mg "iter" = none
  b_len : mg "len" = none
  b_list : mg "list" = none
  b_min : mg "min" = none
  b_range : mg "range" = none
  b_repr : mg "repr" = none
  b_str : mg "str" = none
  b_sum : mg "sum" = none
  b_tuple : mg "tuple" = none
  g_SIGNS : ∃ t, mg "SIGNS" = some (.str ⟨([46, 103, 114, 119] : List Nat).toArray⟩ t)
  g_MARK_SIGNS : ∃ t, mg "MARK_SIGNS" = some (.str ⟨([97, 98, 99, 100, 101, 102, 103, 104, 105, 106, 107, 108, 109, 110, 111, 112, 113, 114, 115, 116, 117, 118, 119, 120, 121, 122, 48, 49, 50, 51, 52, 53, 54, 55, 56, 57] : List Nat).toArray⟩ t)
  g_MOST_LEVELS : ∃ t, mg "MOST_LEVELS" = some (.int (70) t)
  g_MOST_ROW : ∃ t, mg "MOST_ROW" = some (.int (400) t)
  g_MOST_READER : ∃ t, mg "MOST_READER" = some (.int (400) t)
  c_GlimError : mg "GlimError" = some (.ref C_GlimError)
  c_BadRow : mg "BadRow" = some (.ref C_BadRow)
  c_BadReader : mg "BadReader" = some (.ref C_BadReader)
  c_Reader : mg "Reader" = some (.ref C_Reader)
  cl_Reader : Cls K C_Reader
  ic_Reader : InsC K C_Reader
  nt_Reader : PySem.W.notFirst K C_Reader (.type "tuple") = true
  st_Reader : PySem.W.subIn K (.ref C_Reader) (.type "tuple") = some false
  na_Reader_rows : NoAttr K C_Reader "rows"
  o_BadRow : OexC K C_BadRow
  nf_BadRow_number : PySem.W.findIn K (.ref C_BadRow) "number" = some none
  i_BadRow : ∃ fI fd, PySem.W.findIn K (.ref C_BadRow) "__init__" = some (some (.ref fI)) ∧ PySem.W.typeIn K (.ref fI) = some (.type "function") ∧ Fun K "__init__" "BadRow.__init__" s_BadRow fI fd ∧ Binds K fd ["self", "number"] []
  e_BadRow : ExcD K C_BadRow
  o_BadReader : OexC K C_BadReader
  nf_BadReader_number : PySem.W.findIn K (.ref C_BadReader) "number" = some none
  i_BadReader : ∃ fI fd, PySem.W.findIn K (.ref C_BadReader) "__init__" = some (some (.ref fI)) ∧ PySem.W.typeIn K (.ref fI) = some (.type "function") ∧ Fun K "__init__" "BadReader.__init__" s_BadReader fI fd ∧ Binds K fd ["self", "number"] []
  e_BadReader : ExcD K C_BadReader
  k_Reader_Reader : PySem.W.kitOne K (.ref C_Reader) (.ref C_Reader) = some true
  k_tuple_Reader : PySem.W.kitOne K (.type "tuple") (.ref C_Reader) = some false
section
variable {P : Program} {w : World} {K : PySem.W.Frag} {mg : Str → Option Value} {base : Heap} {C_GlimError C_BadRow C_BadReader C_Reader : Addr}
theorem okx_BadReader (T : Txt K mg C_GlimError C_BadRow C_BadReader C_Reader) : OKx P w K mg base "BadReader" "number" C_BadReader := by
  obtain ⟨fI, fd, h1, h2, F, hb⟩ := T.i_BadReader
  exact ⟨T.c_BadReader, T.o_BadReader, T.nf_BadReader_number, fI, fd, h1, h2, ini_ok F sc_BadReader T.o_BadReader T.nf_BadReader_number (fun cdv A outer s H E => (pss_one (ps_ost (pv 0) (pv 1)))), hb⟩
end
end K47
namespace K47
open PySem PySem.Spec PyProof.Rows L2 Fg
local macro_rules | `(tactic| walk_at "sq") => `(tactic| first
  | assumption
  | exact .inl (.inl (by assumption))
  | exact .inl (.inl upd_same))
local macro_rules | `(tactic| walk_at "st") => `(tactic| first
  | assumption
  | exact .inl (.inl (by assumption))
  | exact .inl (.inl upd_same))
local macro_rules | `(tactic| walk_at "o") => `(tactic| first
  | omega
  | assumption
  | (simp only [List.length_append, List.length_take, List.length_drop, List.length_cons, List.length_nil, List.length_singleton, List.length_map, List.length_range, Int.toNat_natCast] ; omega))
local macro_rules | `(tactic| walk_at "s") => `(tactic| first
  | (with_reducible refine i_seq ?_)
  | (with_reducible refine i_asg ?_)
  | ((with_reducible refine' i_var ?h1 ?_); (case h1 => rfl))
  | (with_reducible refine i_c ?_)
  | ((with_reducible refine' i_gname' ?h1 ?_); (case h1 => (simp only [List.set_cons_zero, List.set_cons_succ]; rfl)))
  | (with_reducible refine i_op ?_)
  | (with_reducible refine i_ifS ?_)
  | (with_reducible refine i_for ?_)
  | (with_reducible refine i_test ?_)
  | (with_reducible refine i_B ?_)
  | (with_reducible refine i_exbl ?_)
  | (with_reducible refine i_exint ?_)
  | (with_reducible refine i_cb ?_)
  | (with_reducible refine i_nil ?_)
  | (with_reducible refine i_cons ?_)
  | (with_reducible refine i_ret ?_)
  | (with_reducible refine i_sl ?_)
  | (with_reducible refine i_nopart ?_)
  | (with_reducible refine i_part ?_)
  | (with_reducible refine i_add_int ?_)
  | (with_reducible refine i_sub ?_)
  | (with_reducible refine i_lt ?_)
  | ((with_reducible refine' i_mod ?h1 ?_); (case h1 => walk_at "o"))
  | ((with_reducible refine' i_fdiv ?h1 ?_); (case h1 => (refine cdiv_small ?_ ?_ <;> walk_at "o")))
  | ((with_reducible refine' i_sl_to ?h1 ?h2 ?_); (case h1 => walk_at "o"); (case h2 => walk_at "o"))
  | ((with_reducible refine' i_sl_from ?h1 ?h2 ?_); (case h1 => walk_at "o"); (case h2 => walk_at "o"))
  | ((with_reducible refine' i_add_str ?h1 ?_); (case h1 => walk_at "o"))
  | ((with_reducible refine' i_mul_int ?h1 ?_); (case h1 => first | (refine mul_small ?_ ?_ <;> walk_at "o") | (refine mul_smallR ?_ ?_ <;> walk_at "o")))
  | (with_reducible refine i_le ?_)
  | (with_reducible refine i_gt ?_)
  | (with_reducible refine i_ge ?_)
  | (with_reducible refine i_eq_int ?_)
  | (with_reducible refine i_eq_str ?_)
  | (with_reducible refine i_ne_int ?_)
  | (with_reducible refine i_ne_str ?_)
  | (with_reducible refine i_eq_bl ?_)
  | (with_reducible refine i_ne_bl ?_)
  | (with_reducible refine i_in_sg ?_)
  | (with_reducible refine i_notIn_sg ?_)
  | (with_reducible refine i_call ?_)
  | (with_reducible refine i_callS ?_)
  | (with_reducible refine i_sp1 ?_)
  | (with_reducible refine i_sp2 ?_)
  | (with_reducible refine i_sp3 ?_)
  | (with_reducible refine i_sp4 ?_)
  | (with_reducible refine i_sp1' ?_)
  | (with_reducible refine i_sp2' ?_)
  | (with_reducible refine i_sp3' ?_)
  | ((with_reducible refine' i_ix_lst ?h1 ?h2 ?_); (case h1 => walk_at "sq"); (case h2 => first | exact atI_nat rfl | rfl))
  | ((with_reducible refine' i_ix_tup ?h1 ?h2 ?_); (case h1 => walk_at "st"); (case h2 => first | exact atI_nat rfl | rfl))
  | (with_reducible refine i_gsub ?_)
  | (with_reducible refine i_par ?_)
  | (with_reducible refine i_lstRg1 ?_)
  | (with_reducible refine i_app ?_)
  | (with_reducible refine i_par2 ?_)
  | ((with_reducible refine' i_aug ?h1 ?_); (case h1 => rfl))
  | (with_reducible refine i_ipI ?_)
  | ((with_reducible refine' i_gtup2 ?h1 ?_); (case h1 => walk_at "st"))
  | (with_reducible refine i_int_bl ?_)
  | (with_reducible refine i_raise ?_)
  | (with_reducible refine i_mkE ?_)
  | (with_reducible refine i_ex1 ?_)
  | (with_reducible refine i_and ?_)
  | (with_reducible refine i_or ?_)
  | (with_reducible refine i_not ?_)
  | (with_reducible refine i_tt ?_)
  | (with_reducible refine i_ff ?_)
  | (with_reducible refine i_nott ?_)
  | (with_reducible refine i_notf ?_)
  | (with_reducible refine i_andV ?_)
  | (with_reducible refine i_orV ?_)
  | (with_reducible refine i_notV ?_)
  | (with_reducible refine i_ifE ?_)
  | (with_reducible refine i_tup ?_)
  | (with_reducible refine i_lst ?_)
  | (with_reducible refine i_un ?_)
  | (with_reducible refine i_neg ?_)
  | (with_reducible refine i_chain ?_)
  | (with_reducible refine i_next ?_)
  | (with_reducible refine i_retN ?_)
  | (with_reducible refine i_drop ?_)
  | (with_reducible refine i_int_int ?_)
  | (with_reducible refine i_abs ?_)
  | (with_reducible refine i_m1c ?_)
  | (with_reducible refine i_is_non ?_)
  | (with_reducible refine i_is_int ?_)
  | (with_reducible refine i_is_bl ?_)
  | (with_reducible refine i_isn_bl ?_)
  | (with_reducible refine i_is_str ?_)
  | (with_reducible refine i_is_ref ?_)
  | (with_reducible refine i_isn_non ?_)
  | (with_reducible refine i_isn_int ?_)
  | (with_reducible refine i_isn_str ?_)
  | (with_reducible refine i_isn_ref ?_)
  | (with_reducible refine i_len_str ?h1 ?_; (case h1 => walk_at "o"))
  | (with_reducible refine i_callD ?_)
  | (with_reducible refine i_spD2 ?_)
  | (with_reducible refine i_spM1 ?_)
  | (with_reducible refine i_spM2 ?_)
  | (with_reducible refine i_spM3 ?_)
  | (with_reducible refine i_spM4 ?_)
  | (with_reducible refine i_spM3d ?_)
  | (with_reducible refine i_tfld ?_)
  | (with_reducible refine i_sfld ?_)
  | (with_reducible refine i_meth ?_)
  | (with_reducible refine i_make ?_)
  | (with_reducible refine i_spl ?_)
  | (with_reducible refine i_mkE2 ?_)
  | (with_reducible refine i_ex2 ?_)
  | (with_reducible refine i_dget ?_)
  | (with_reducible refine i_tru ?_)
  | (with_reducible refine i_dput ?_)
  | (with_reducible refine i_dnotin ?_)
  | (with_reducible refine i_din ?_)
  | (with_reducible refine i_rev ?_)
  | (with_reducible refine i_isi_int_int ?_) | (with_reducible refine i_isi_int_bool ?_) | (with_reducible refine i_isi_int_str ?_) | (with_reducible refine i_isi_int_tuple ?_) | (with_reducible refine i_isi_int_list ?_)
  | (with_reducible refine i_isi_bl_int ?_) | (with_reducible refine i_isi_bl_bool ?_) | (with_reducible refine i_isi_bl_str ?_) | (with_reducible refine i_isi_bl_tuple ?_) | (with_reducible refine i_isi_bl_list ?_)
  | (with_reducible refine i_isi_str_int ?_) | (with_reducible refine i_isi_str_bool ?_) | (with_reducible refine i_isi_str_str ?_) | (with_reducible refine i_isi_str_tuple ?_) | (with_reducible refine i_isi_str_list ?_)
  | (with_reducible refine i_isi_non_int ?_) | (with_reducible refine i_isi_non_bool ?_) | (with_reducible refine i_isi_non_str ?_) | (with_reducible refine i_isi_non_tuple ?_) | (with_reducible refine i_isi_non_list ?_))
local macro_rules | `(tactic| walk_at "go") => `(tactic| (repeat' (walk_at "s")))
local macro_rules | `(tactic| walk_at "n") => `(tactic| simp only [wipe, List.map_cons, List.map_nil, List.set_cons_zero, List.set_cons_succ])
structure Dd where
  a : Addr
  c : Addr
  ns : List Int
/-- H0: what is known besides -/
def Dr (K : PySem.W.Frag) (d : Dd) (H0 H : Hp) : Prop := Same H0 H ∧ H0 d.a = none ∧ SqL K H0 d.c (d.ns.map V.int) ∧ d.ns.length ≤ 100 ∧ ∃ p b u x s : Int, H d.a = some (.lst [.ref d.c, .int p, .int b, .int u, .int x, .int s]) ∧ 0 ≤ p
section
variable {K : PySem.W.Frag} {d : Dd} {H0 H H' H1 : Hp} {q : Addr} {o o' : HO}
theorem Dr.same (h : Dr K d H0 H) (s : Same H H') : Dr K d H0 H' := by
  obtain ⟨s0, n0, hc, hl, p, b, u, x, sd, ha, hp⟩ := h
  exact ⟨s0.trans s, n0, hc, hl, p, b, u, x, sd, s _ _ ha, hp⟩
theorem Dr.new (h : Dr K d H0 H) (n : H q = none) : Dr K d (upd H0 q o) (upd H q o) := by
  obtain ⟨s0, n0, hc, hl, p, b, u, x, sd, ha, hp⟩ := h
  have nq : d.a ≠ q := ne_of_none ha n
  have s1 : Same H0 (upd H0 q o) := same_upd (s0.free n)
  refine ⟨fun b' o' e => ?_, by rw [upd_ne nq]; exact n0, s1.seq hc, hl, p, b, u, x, sd, by rw [upd_ne nq]; exact ha, hp⟩
  by_cases hb : b' = q
  · rw [hb, upd_same] at e
    rw [hb, upd_same]; exact e
  · rw [upd_ne hb] at e
    rw [upd_ne hb]; exact s0 _ _ e
/-- an object that is known changes -/
theorem Dr.put (h : Dr K d (upd H0 q o) H) (hc : SqL K H0 d.c (d.ns.map V.int)) (n : H0 q = none) : Dr K d (upd H0 q o') (upd H q o') := by
  obtain ⟨s0, n0, _, hl, p, b, u, x, sd, ha, hp⟩ := h
  have nq : d.a ≠ q := fun z => by rw [z, upd_same] at n0; cases n0
  have s1 : Same H0 (upd H0 q o') := same_upd n
  rw [upd_ne nq] at n0
  refine ⟨fun b' o' e => ?_, by rw [upd_ne nq]; exact n0, s1.seq hc, hl, p, b, u, x, sd, by rw [upd_ne nq]; exact ha, hp⟩
  by_cases hb : b' = q
  · rw [hb, upd_same] at e
    rw [hb, upd_same]; exact e
  · rw [upd_ne hb] at e
    rw [upd_ne hb]; exact s0 _ _ (by rw [upd_ne hb]; exact e)
/-- more, or less, is known -/
theorem Dr.know (h : Dr K d H0 H) (s0 : Same H0 H1) (s1 : Same H1 H) (n : H1 d.a = none) : Dr K d H1 H := by
  obtain ⟨_, n0, hc, hl, p, b, u, x, sd, ha, hp⟩ := h
  exact ⟨s1, n, s0.seq hc, hl, p, b, u, x, sd, ha, hp⟩
theorem Dr.less (h : Dr K d (upd H0 q o) H) (hc : SqL K H0 d.c (d.ns.map V.int)) (n : H0 q = none) : Dr K d H0 H := by
  obtain ⟨s0, n0, _, hl, p, b, u, x, sd, ha, hp⟩ := h
  have nq : d.a ≠ q := fun z => by rw [z, upd_same] at n0; cases n0
  rw [upd_ne nq] at n0
  exact ⟨(same_upd n).trans s0, n0, hc, hl, p, b, u, x, sd, ha, hp⟩
theorem Dr.old (h : Dr K d H0 H) (e : H0 q = some o) : H q = some o := h.1 _ _ e
theorem Dr.cells (h : Dr K d H0 H) : SqL K H0 d.c (d.ns.map V.int) := h.2.2.1
theorem Dr.free (h : Dr K d H0 H) (n : H q = none) : H0 q = none := h.1.free n
end
theorem range_getD (xs : List V) : (List.range xs.length).map (fun i => xs.getD i .non) = xs := by
  refine List.ext_getElem? fun i => ?_
  rw [List.getElem?_map]
  by_cases h : i < xs.length
  · rw [List.getElem?_range h, Option.map_some, List.getD_eq_getElem?_getD, List.getElem?_eq_getElem h]
    rfl
  · rw [List.getElem?_eq_none (by simpa using h), List.getElem?_eq_none (by omega)]
    rfl
def Btw (n many : Int) : Prop := 0 ≤ n ∧ (2 ≤ many → n < many) ∧ (many < 2 → n = 0)
section
variable {P : Program} {w : World} {K : PySem.W.Frag} {mg : Str → Option Value} {base : Heap} {C_GlimError C_BadRow C_BadReader C_Reader : Addr}
def p_L_draw (K : PySem.W.Frag) : P1 := fun v H Q _ => ∃ (a0 : Addr) (ns : List Int), v = .ref a0 ∧ SqL K H a0 (ns.map V.int) ∧ ns.length ≤ 100 ∧ ∀ H0 d H', Same H H0 → Dr K d H0 H' → Q (.ref d.a) H'
theorem ok_L_draw (T : Txt K mg C_GlimError C_BadRow C_BadReader C_Reader) : OK P w K mg base CX0 1 "_law_draw" ["_law_script"] (sp1  (p_L_draw K)) := by
  refine OK.mk (k := 0) T.d_L_draw sc_L_draw len1 fun f cdv A outer s H vs Q E hr h => ?_
  obtain ⟨x, rfl, h⟩ := h
  refine ⟨_, (pss_cons (ps_setLc (i := 1) (own := [("_law_cell", 2)]) (g := gName 2) (tt := tYes) (by rfl) sc_L_draw.nd rfl rfl (sw_true rfl rfl rfl (by decide +kernel)) (piAny K (pv 0)) (blkOk_by (own := [("_law_cell", 2)]) (N := ["_law_script", "_law_cells", "_law_cell"]) (sc := (defScope s_L_draw)) (by decide +kernel)) (fun _ _ _ _ _ => (pg_name (i := 2) sc_L_draw.nd rfl (Or.inl rfl))) (fun _ _ _ _ _ => pts_nil) (fun _ _ _ _ _ => (pv 2))) (pss_one (ps_ret (pe_lst (pa_cons (pv 1) (pa_cons pe_int (pa_cons pe_int (pa_cons pe_int (pa_cons pe_int (pa_cons (pe_op (opAdd K) (pe_op op_modP (pe_callTy call_intP (by rfl) T.b_int (by decide +kernel) (pa_cons (pe_callB (cSum K rfl) (by rfl) T.b_sum (by decide +kernel) (pa_cons (pv 1) pa_nil)) pa_nil)) pe_int) (pe_op op_mulP pe_int (pe_callB (cLen K) (by rfl) T.b_len (by decide +kernel) (pa_cons (pv 1) pa_nil)))) pa_nil)))))))))), ?_⟩
  show (_ : TS) { nx := fun _ H' => Q .non H', rt := Q } [some x, none, none] H
  obtain ⟨a0, ns, rfl, hS, hl, q⟩ := h
  walk_at "go"
  refine c_lst (xs := ns.map V.int) (fun R k => by walk_at "go"; exact k) hS (by rw [List.length_map]; omega) (fun _ => true) (fun i => (ns.map V.int).getD i .non) (fun _ => rfl) (fun i v H2 hi s2 QB k => k H2 (Same.refl H2)) (fun i v H2 hi s2 _ QV k => ?_) (fun Dl H2 n2 s2 d2 => ?_)
  · show (_ : TE) [some (.ref a0), none, some v] H2 QV
    walk_at "go"
    have e : v = (ns.map V.int).getD i .non := by rw [List.getD_eq_getElem?_getD, hi]; rfl
    rw [e]
    exact k H2 (Same.refl H2)
  · rw [kept_all, range_getD] at d2
    walk_at "go"
    refine i_sum (ns := ns) (.inl (.inl d2)) ?_
    walk_at "go"
    refine i_len_lst (.inl (.inl d2)) ?_
    walk_at "go"
    refine i_new (by show 6 ≤ 100000; omega) fun a na => ?_
    walk_at "go"
    exact q H2 ⟨a, Dl, ns⟩ _ s2 ⟨same_upd na, na, .inl (.inl d2), hl, _, _, _, _, _, upd_same, Int.le_refl _⟩
def p_L_mix : P2 := fun x y H Q _ => ∃ a b : Int, x = .int a ∧ y = .int b ∧ ∀ r : Int, Q (.int r) H
theorem ok_L_mix (T : Txt K mg C_GlimError C_BadRow C_BadReader C_Reader) : OK P w K mg base CX0 1 "_law_mix" ["_law_cell", "_law_turn"] (sp2  p_L_mix) := by
  refine OK.mk (k := 0) T.d_L_mix sc_L_mix len2 fun f cdv A outer s H vs Q E hr h => ?_
  obtain ⟨x, y, rfl, h⟩ := h
  refine ⟨_, (pss_cons (ps_set (i := 2) sc_L_mix.nd rfl (Or.inl rfl) (pe_op op_modP (pe_callTy call_intP (by rfl) T.b_int (by decide +kernel) (pa_cons (pe_op (opAdd K) (pe_op (opAdd K) (pe_op op_mulP (pv 0) pe_int) (pe_op op_mulP (pv 1) pe_int)) pe_int) pa_nil)) pe_int)) (pss_cons (ps_set (i := 3) sc_L_mix.nd rfl (Or.inl rfl) (pe_op op_modP (pe_callTy call_intP (by rfl) T.b_int (by decide +kernel) (pa_cons (pe_op (opAdd K) (pe_op (opAdd K) (pe_op op_mulP (pv 2) (pv 2)) (pe_op op_mulP (pv 1) pe_int)) (pv 0)) pa_nil)) pe_int)) (pss_cons (ps_set (i := 3) sc_L_mix.nd rfl (Or.inl rfl) (pe_op op_modP (pe_callTy call_intP (by rfl) T.b_int (by decide +kernel) (pa_cons (pe_op (opAdd K) (pe_op op_mulP (pv 3) (pv 3)) (pv 2)) pa_nil)) pe_int)) (pss_one (ps_ret (pe_op op_fdivP (pv 3) pe_int)))))), ?_⟩
  show (_ : TS) { nx := fun _ H' => Q .non H', rt := Q } [some x, some y, none, none] H
  obtain ⟨c, t, rfl, rfl, q⟩ := h
  walk_at "go"
  have h1 : 0 ≤ (c * 48271 + t * 69621 + 12345) % 2147483647 := Int.emod_nonneg _ (by decide)
  have h2 : (c * 48271 + t * 69621 + 12345) % 2147483647 < 2147483647 := Int.emod_lt_of_pos _ (by decide)
  generalize (c * 48271 + t * 69621 + 12345) % 2147483647 = o at *
  walk_at "go"
  have h3 : 0 ≤ (o * o + t * 7919 + c) % 998244353 := Int.emod_nonneg _ (by decide)
  have h4 : (o * o + t * 7919 + c) % 998244353 < 998244353 := Int.emod_lt_of_pos _ (by decide)
  generalize (o * o + t * 7919 + c) % 998244353 = o2 at *
  walk_at "go"
  exact q _
/-- a number from 0 to less than so many; the draws go on -/
def p_L_pick (K : PySem.W.Frag) : P2 := fun x y H Q _ => ∃ (H0 : Hp) (d : Dd) (many : Int), x = .ref d.a ∧ y = .int many ∧ Dr K d H0 H ∧ many ≤ 10000000000000000000000000000000000000000 ∧ ∀ (n : Int) H', Dr K d H0 H' → Btw n many → Q (.int n) H'
theorem wide_many {b many : Int} (h : 0 < many) (h2 : many ≤ 10000000000000000000000000000000000000000) : CDivW b many := by
  refine wide_div (b := 140) h ?_ (by decide) (by decide)
  have e : (2 : Nat) ^ 140 = 1393796574908163946345982392040522594123776 := by decide +kernel
  rw [e]
  omega
theorem ok_L_pick (T : Txt K mg C_GlimError C_BadRow C_BadReader C_Reader) : OK P w K mg base CX0 2 "_law_pick" ["_law_draw_here", "_law_many"] (sp2  (p_L_pick K)) := by
  refine OK.mk (k := 1) T.d_L_pick sc_L_pick len2 fun f cdv A outer s H vs Q E hr h => ?_
  obtain ⟨x, y, rfl, h⟩ := h
  refine ⟨_, (pss_cons (ps_if (pt_cmpR op_ltP (pv 1) pe_int (nomark _)) (pss_one (ps_ret pe_int)) pss_nil) (Evl.pss_cut (ps_if (pw_and (pt_cmpR (opEq K hr.units) (pe_ix (ixK K) (pv 0) pe_int (fun _ _ => rfl)) pe_int (nomark _)) (pw_and (pt_cmpR op_ltP (pe_ix (ixK K) (pv 0) pe_int (fun _ _ => rfl)) (pe_callB (cLen K) (by rfl) T.b_len (by decide +kernel) (pa_cons (pe_ix (ixK K) (pv 0) pe_int (fun _ _ => rfl)) pa_nil)) (nomark _)) (pw_and1 (pt_cmpR (opEq K hr.units) (pe_ix (ixK K) (pv 0) pe_int (fun _ _ => rfl)) pe_int (nomark _))))).pt (pss_cons (ps_set (i := 2) sc_L_pick.nd rfl (Or.inl rfl) (pe_ix (ixK K) (pe_ix (ixK K) (pv 0) pe_int (fun _ _ => rfl)) (pe_ix (ixK K) (pv 0) pe_int (fun _ _ => rfl)) (fun _ _ => rfl))) (pss_one (ps_if (pw_or (pt_cmpR op_geP (pv 2) (pe_op op_powP pe_int pe_int) (nomark _)) (pw_or1 (pt_cmpR op_leP (pv 2) (pe_un un_neg (pe_op op_powP pe_int pe_int)) (nomark _)))).pt (pss_cons (ps_asg (pe_op op_modP (pe_callTy call_intP (by rfl) T.b_int (by decide +kernel) (pa_cons (pe_callB call_absP (by rfl) T.b_abs (by decide +kernel) (pa_cons (pv 2) pa_nil)) pa_nil)) (pe_op op_powP (pe_op op_powP pe_int pe_int) pe_int)) (pg_sub (pv 0) pe_int set_list)) (pss_one (ps_asg (pe_op (opAdd K) (pe_ix (ixK K) (pv 0) pe_int (fun _ _ => rfl)) pe_int) (pg_sub (pv 0) pe_int set_list)))) pss_nil))) pss_nil) (pss_cons (ps_if (pt_cmpR op_gtP (pe_ix (ixK K) (pv 0) pe_int (fun _ _ => rfl)) pe_int (nomark _)) (pss_cons (ps_set (i := 3) sc_L_pick.nd rfl (Or.inl rfl) (pe_op op_modP (pe_callTy call_intP (by rfl) T.b_int (by decide +kernel) (pa_cons (pe_ix (ixK K) (pv 0) pe_int (fun _ _ => rfl)) pa_nil)) (pv 1))) (pss_cons (ps_asg (pe_op op_fdivP (pe_ix (ixK K) (pv 0) pe_int (fun _ _ => rfl)) (pv 1)) (pg_sub (pv 0) pe_int set_list)) (pss_one (ps_ret (pv 3))))) pss_nil) (pss_cons (ps_if (pt_cmpR op_ltP (pe_ix (ixK K) (pv 0) pe_int (fun _ _ => rfl)) (pe_callB (cLen K) (by rfl) T.b_len (by decide +kernel) (pa_cons (pe_ix (ixK K) (pv 0) pe_int (fun _ _ => rfl)) pa_nil)) (nomark _)) (pss_cons (ps_set (i := 2) sc_L_pick.nd rfl (Or.inl rfl) (pe_ix (ixK K) (pe_ix (ixK K) (pv 0) pe_int (fun _ _ => rfl)) (pe_ix (ixK K) (pv 0) pe_int (fun _ _ => rfl)) (fun _ _ => rfl))) (pss_cons (ps_asg (pe_op (opAdd K) (pe_ix (ixK K) (pv 0) pe_int (fun _ _ => rfl)) pe_int) (pg_sub (pv 0) pe_int set_list)) (pss_cons (ps_set (i := 4) sc_L_pick.nd rfl (Or.inl rfl) (pe_op op_modP (pe_callTy call_intP (by rfl) T.b_int (by decide +kernel) (pa_cons (pe_f (ok_L_mix (K := K) T) (hr.mono (by decide)) pass0 (pa_cons (pe_op (opAdd K) (pv 2) (pe_op op_mulP pe_int (pe_ix (ixK K) (pv 0) pe_int (fun _ _ => rfl)))) (pa_cons (pe_ix (ixK K) (pv 0) pe_int (fun _ _ => rfl)) pa_nil))) pa_nil)) (pv 1))) (Evl.pss_cut (ps_if (pt_cmpR (opEq K hr.units) (pe_ix (ixK K) (pv 0) pe_int (fun _ _ => rfl)) pe_int (nomark _)) (pss_cons (ps_asg pe_int (pg_sub (pv 0) pe_int set_list)) (pss_one (ps_asg (pe_op (opAdd K) (pe_ix (ixK K) (pv 0) pe_int (fun _ _ => rfl)) pe_int) (pg_sub (pv 0) pe_int set_list)))) pss_nil) (pss_one (ps_ret (pv 4))))))) pss_nil) (pss_cons (ps_asg (pe_op (opAdd K) (pe_ix (ixK K) (pv 0) pe_int (fun _ _ => rfl)) pe_int) (pg_sub (pv 0) pe_int set_list)) (pss_one (ps_ret (pe_op op_modP (pe_callTy call_intP (by rfl) T.b_int (by decide +kernel) (pa_cons (pe_f (ok_L_mix (K := K) T) (hr.mono (by decide)) pass0 (pa_cons (pe_ix (ixK K) (pv 0) pe_int (fun _ _ => rfl)) (pa_cons (pe_op (opAdd K) (pe_ix (ixK K) (pv 0) pe_int (fun _ _ => rfl)) pe_int) pa_nil))) pa_nil)) (pv 1))))))))), ?_⟩
  show (_ : TS) { nx := fun _ H' => Q .non H', rt := Q } [some x, some y, none, none, none] H
  obtain ⟨H0, d, many, rfl, rfl, dr, hmax, q⟩ := h
  walk_at "go"
  refine i_dec (fun e => ?_) (fun e => ?_)
  · walk_at "go"
    exact q 0 H dr ⟨Int.le_refl _, fun z => by omega, fun _ => rfl⟩
  walk_at "go"
  have hpos : 0 < many := by omega
  -- a great cell is taken up
  refine i_cut (fun σ H' => ∃ v2 v3 v4, σ = [some (.ref d.a), some (.int many), v2, v3, v4] ∧ Dr K d H0 H') ?_ ?_
  · obtain ⟨a, c, ns⟩ := d
    obtain ⟨s0, n0, hC, hl, p, b, u, x, sd, hA, hp⟩ := id dr
    dsimp only at *
    have hC' : SqL K H c (ns.map V.int) := s0.seq hC
    have skip : ∃ v2 v3 v4, ([some (.ref a), some (.int many), none, none, none] : L2.St) = [some (.ref a), some (.int many), v2, v3, v4] ∧ Dr K ⟨a, c, ns⟩ H0 H := ⟨_, _, _, rfl, dr⟩
    walk_at "go"
    refine i_dec (fun e1 => ?_) (fun e1 => skip)
    walk_at "go"
    refine i_len_lst hC' ?_
    walk_at "go"
    refine i_dec (fun e2 => ?_) (fun e2 => skip)
    walk_at "go"
    refine i_dec (fun e3 => ?_) (fun e3 => skip)
    walk_at "go"
    rw [List.length_map] at e2
    have hpl : p.toNat < ns.length := by omega
    refine i_ix_lst (v := .int ns[p.toNat]) hC' (atI_int hp (by rw [List.getElem?_map, List.getElem?_eq_getElem hpl]; rfl)) ?_
    walk_at "go"
    refine i_pow (by decide +kernel) ?_
    walk_at "go"
    have fin : ∃ v2 v3 v4, ([some (.ref a), some (.int many), some (.int ns[p.toNat]), none, none] : L2.St) = [some (.ref a), some (.int many), v2, v3, v4] ∧ Dr K ⟨a, c, ns⟩ H0 H := ⟨_, _, _, rfl, dr⟩
    refine i_dec (fun e4 => ?_) (fun e4 => ?_)
    case' refine_2 =>
      walk_at "go"
      refine i_pow (by decide +kernel) ?_
      walk_at "go"
      refine i_dec (fun e5 => ?_) (fun e5 => fin)
    all_goals
      walk_at "go"
      refine i_pow (by decide +kernel) ?_
      walk_at "go"
      refine i_pow (by decide +kernel) ?_
      walk_at "go"
      refine i_mod (by decide +kernel) ?_
      walk_at "go"
      refine i_setL 2 hA rfl rfl ?_
      walk_at "go"
      refine i_setL 1 upd_same rfl rfl ?_
      walk_at "go"
      rw [upd_upd]
      exact ⟨_, _, _, rfl, Same.upd s0 n0, n0, hC, hl, _, _, _, _, _, upd_same, by omega⟩
  · rintro σ H1 ⟨v2, v3, v4, rfl, d1⟩
    obtain ⟨a, c, ns⟩ := d
    obtain ⟨s0, n0, hC, hl, p, b, u, x, sd, hA, hp⟩ := id d1
    dsimp only at *
    have hC' : SqL K H1 c (ns.map V.int) := s0.seq hC
    have put : ∀ {p' b' u' x' s' : Int}, 0 ≤ p' → Dr K ⟨a, c, ns⟩ H0 (upd H1 a (.lst [.ref c, .int p', .int b', .int u', .int x', .int s'])) := fun h => ⟨Same.upd s0 n0, n0, hC, hl, _, _, _, _, _, upd_same, h⟩
    have btw : ∀ r : Int, Btw (r % many) many := fun r => ⟨Int.emod_nonneg _ (by omega), fun _ => Int.emod_lt_of_pos _ hpos, fun z => by omega⟩
    walk_at "go"
    refine i_dec (fun e1 => ?_) (fun e1 => ?_)
    · -- a digit of the great one
      walk_at "go"
      refine i_fdiv (wide_many hpos hmax) ?_
      walk_at "go"
      refine i_setL 2 hA rfl rfl ?_
      walk_at "go"
      exact q _ _ (put hp) (btw _)
    walk_at "go"
    refine i_len_lst hC' ?_
    walk_at "go"
    rw [List.length_map]
    refine i_dec (fun e2 => ?_) (fun e2 => ?_)
    · have hpl : p.toNat < ns.length := by omega
      walk_at "go"
      refine i_ix_lst (v := .int ns[p.toNat]) hC' (atI_int hp (by rw [List.getElem?_map, List.getElem?_eq_getElem hpl]; rfl)) ?_
      walk_at "go"
      refine i_setL 3 hA rfl rfl ?_
      walk_at "go"
      refine ⟨_, _, rfl, rfl, fun r => ?_⟩
      walk_at "go"
      refine i_cut (fun σ H' => ∃ v3, σ = [some (.ref a), some (.int many), some (.int ns[p.toNat]), v3, some (.int (r % many))] ∧ Dr K ⟨a, c, ns⟩ H0 H') ?_ ?_
      · walk_at "go"
        refine i_dec (fun e3 => ?_) (fun e3 => ⟨_, rfl, put hp⟩)
        walk_at "go"
        refine i_setL 3 upd_same rfl rfl ?_
        walk_at "go"
        refine i_setL 1 upd_same rfl rfl ?_
        walk_at "go"
        rw [upd_upd, upd_upd]
        exact ⟨_, rfl, put (by omega)⟩
      · rintro σ H2 ⟨v3, rfl, d2⟩
        walk_at "go"
        exact q _ _ d2 (btw _)
    · walk_at "go"
      refine i_setL 4 hA rfl rfl ?_
      walk_at "go"
      refine ⟨_, _, rfl, rfl, fun r => ?_⟩
      walk_at "go"
      exact q _ _ (put hp) (btw _)
end
end K47
namespace K47
open PySem PySem.Spec PyProof.Rows L2 Fg
local macro_rules | `(tactic| walk_at "sq") => `(tactic| first
  | assumption
  | exact .inl (.inl (by assumption))
  | exact .inl (.inl upd_same))
local macro_rules | `(tactic| walk_at "st") => `(tactic| first
  | assumption
  | exact .inl (.inl (by assumption))
  | exact .inl (.inl upd_same))
local macro_rules | `(tactic| walk_at "o") => `(tactic| first
  | omega
  | assumption
  | (simp only [List.length_append, List.length_take, List.length_drop, List.length_cons, List.length_nil, List.length_singleton, List.length_map, List.length_range, Int.toNat_natCast] ; omega))
local macro_rules | `(tactic| walk_at "s") => `(tactic| first
  | (with_reducible refine i_seq ?_)
  | (with_reducible refine i_asg ?_)
  | ((with_reducible refine' i_var ?h1 ?_); (case h1 => rfl))
  | (with_reducible refine i_c ?_)
  | ((with_reducible refine' i_gname' ?h1 ?_); (case h1 => (simp only [List.set_cons_zero, List.set_cons_succ]; rfl)))
  | (with_reducible refine i_op ?_)
  | (with_reducible refine i_ifS ?_)
  | (with_reducible refine i_for ?_)
  | (with_reducible refine i_test ?_)
  | (with_reducible refine i_B ?_)
  | (with_reducible refine i_exbl ?_)
  | (with_reducible refine i_exint ?_)
  | (with_reducible refine i_cb ?_)
  | (with_reducible refine i_nil ?_)
  | (with_reducible refine i_cons ?_)
  | (with_reducible refine i_ret ?_)
  | (with_reducible refine i_sl ?_)
  | (with_reducible refine i_nopart ?_)
  | (with_reducible refine i_part ?_)
  | (with_reducible refine i_add_int ?_)
  | (with_reducible refine i_sub ?_)
  | (with_reducible refine i_lt ?_)
  | ((with_reducible refine' i_mod ?h1 ?_); (case h1 => walk_at "o"))
  | ((with_reducible refine' i_fdiv ?h1 ?_); (case h1 => (refine cdiv_small ?_ ?_ <;> walk_at "o")))
  | ((with_reducible refine' i_sl_to ?h1 ?h2 ?_); (case h1 => walk_at "o"); (case h2 => walk_at "o"))
  | ((with_reducible refine' i_sl_from ?h1 ?h2 ?_); (case h1 => walk_at "o"); (case h2 => walk_at "o"))
  | ((with_reducible refine' i_add_str ?h1 ?_); (case h1 => walk_at "o"))
  | ((with_reducible refine' i_mul_int ?h1 ?_); (case h1 => first | (refine mul_small ?_ ?_ <;> walk_at "o") | (refine mul_smallR ?_ ?_ <;> walk_at "o")))
  | (with_reducible refine i_le ?_)
  | (with_reducible refine i_gt ?_)
  | (with_reducible refine i_ge ?_)
  | (with_reducible refine i_eq_int ?_)
  | (with_reducible refine i_eq_str ?_)
  | (with_reducible refine i_ne_int ?_)
  | (with_reducible refine i_ne_str ?_)
  | (with_reducible refine i_eq_bl ?_)
  | (with_reducible refine i_ne_bl ?_)
  | (with_reducible refine i_in_sg ?_)
  | (with_reducible refine i_notIn_sg ?_)
  | (with_reducible refine i_call ?_)
  | (with_reducible refine i_callS ?_)
  | (with_reducible refine i_sp1 ?_)
  | (with_reducible refine i_sp2 ?_)
  | (with_reducible refine i_sp3 ?_)
  | (with_reducible refine i_sp4 ?_)
  | (with_reducible refine i_sp1' ?_)
  | (with_reducible refine i_sp2' ?_)
  | (with_reducible refine i_sp3' ?_)
  | ((with_reducible refine' i_ix_lst ?h1 ?h2 ?_); (case h1 => walk_at "sq"); (case h2 => first | exact atI_nat rfl | rfl))
  | ((with_reducible refine' i_ix_tup ?h1 ?h2 ?_); (case h1 => walk_at "st"); (case h2 => first | exact atI_nat rfl | rfl))
  | (with_reducible refine i_gsub ?_)
  | (with_reducible refine i_par ?_)
  | (with_reducible refine i_lstRg1 ?_)
  | (with_reducible refine i_app ?_)
  | (with_reducible refine i_par2 ?_)
  | ((with_reducible refine' i_aug ?h1 ?_); (case h1 => rfl))
  | (with_reducible refine i_ipI ?_)
  | ((with_reducible refine' i_gtup2 ?h1 ?_); (case h1 => walk_at "st"))
  | (with_reducible refine i_int_bl ?_)
  | (with_reducible refine i_raise ?_)
  | (with_reducible refine i_mkE ?_)
  | (with_reducible refine i_ex1 ?_)
  | (with_reducible refine i_and ?_)
  | (with_reducible refine i_or ?_)
  | (with_reducible refine i_not ?_)
  | (with_reducible refine i_tt ?_)
  | (with_reducible refine i_ff ?_)
  | (with_reducible refine i_nott ?_)
  | (with_reducible refine i_notf ?_)
  | (with_reducible refine i_andV ?_)
  | (with_reducible refine i_orV ?_)
  | (with_reducible refine i_notV ?_)
  | (with_reducible refine i_ifE ?_)
  | (with_reducible refine i_tup ?_)
  | (with_reducible refine i_lst ?_)
  | (with_reducible refine i_un ?_)
  | (with_reducible refine i_neg ?_)
  | (with_reducible refine i_chain ?_)
  | (with_reducible refine i_next ?_)
  | (with_reducible refine i_retN ?_)
  | (with_reducible refine i_drop ?_)
  | (with_reducible refine i_int_int ?_)
  | (with_reducible refine i_abs ?_)
  | (with_reducible refine i_m1c ?_)
  | (with_reducible refine i_is_non ?_)
  | (with_reducible refine i_is_int ?_)
  | (with_reducible refine i_is_bl ?_)
  | (with_reducible refine i_isn_bl ?_)
  | (with_reducible refine i_is_str ?_)
  | (with_reducible refine i_is_ref ?_)
  | (with_reducible refine i_isn_non ?_)
  | (with_reducible refine i_isn_int ?_)
  | (with_reducible refine i_isn_str ?_)
  | (with_reducible refine i_isn_ref ?_)
  | (with_reducible refine i_len_str ?h1 ?_; (case h1 => walk_at "o"))
  | (with_reducible refine i_callD ?_)
  | (with_reducible refine i_spD2 ?_)
  | (with_reducible refine i_spM1 ?_)
  | (with_reducible refine i_spM2 ?_)
  | (with_reducible refine i_spM3 ?_)
  | (with_reducible refine i_spM4 ?_)
  | (with_reducible refine i_spM3d ?_)
  | (with_reducible refine i_tfld ?_)
  | (with_reducible refine i_sfld ?_)
  | (with_reducible refine i_meth ?_)
  | (with_reducible refine i_make ?_)
  | (with_reducible refine i_spl ?_)
  | (with_reducible refine i_mkE2 ?_)
  | (with_reducible refine i_ex2 ?_)
  | (with_reducible refine i_dget ?_)
  | (with_reducible refine i_tru ?_)
  | (with_reducible refine i_dput ?_)
  | (with_reducible refine i_dnotin ?_)
  | (with_reducible refine i_din ?_)
  | (with_reducible refine i_rev ?_)
  | (with_reducible refine i_isi_int_int ?_) | (with_reducible refine i_isi_int_bool ?_) | (with_reducible refine i_isi_int_str ?_) | (with_reducible refine i_isi_int_tuple ?_) | (with_reducible refine i_isi_int_list ?_)
  | (with_reducible refine i_isi_bl_int ?_) | (with_reducible refine i_isi_bl_bool ?_) | (with_reducible refine i_isi_bl_str ?_) | (with_reducible refine i_isi_bl_tuple ?_) | (with_reducible refine i_isi_bl_list ?_)
  | (with_reducible refine i_isi_str_int ?_) | (with_reducible refine i_isi_str_bool ?_) | (with_reducible refine i_isi_str_str ?_) | (with_reducible refine i_isi_str_tuple ?_) | (with_reducible refine i_isi_str_list ?_)
  | (with_reducible refine i_isi_non_int ?_) | (with_reducible refine i_isi_non_bool ?_) | (with_reducible refine i_isi_non_str ?_) | (with_reducible refine i_isi_non_tuple ?_) | (with_reducible refine i_isi_non_list ?_))
local macro_rules | `(tactic| walk_at "go") => `(tactic| (repeat' (walk_at "s")))
local macro_rules | `(tactic| walk_at "n") => `(tactic| simp only [wipe, List.map_cons, List.map_nil, List.set_cons_zero, List.set_cons_succ])
def isIn : PyData → Int → Int → Bool
  | .int i, lo, hi => decide (lo ≤ i) && decide (i ≤ hi)
  | _, _, _ => false
theorem isIn_int (i lo hi : Int) : isIn (.int i) lo hi = (decide (lo ≤ i) && decide (i ≤ hi)) := rfl
section
variable {P : Program} {w : World} {K : PySem.W.Frag} {mg : Str → Option Value} {base : Heap} {C_GlimError C_BadRow C_BadReader C_Reader : Addr}
def p_is_integer : P3 := fun x y z H Q _ => ∃ d lo hi, At H x d ∧ y = .int lo ∧ z = .int hi ∧ Q (.bl (isIn d lo hi)) H
theorem ok_is_integer (T : Txt K mg C_GlimError C_BadRow C_BadReader C_Reader) : OK P w K mg base CX0 1 "is_integer" ["thing", "low", "high"] (sp3  p_is_integer) := by
  refine OK.mk (k := 0) T.d_is_integer sc_is_integer len3 fun f cdv A outer s H vs Q E hr h => ?_
  obtain ⟨x, y, z, rfl, h⟩ := h
  refine ⟨_, (pss_cons (ps_if (pw_or (pt_val (pe_callB (cIsi K) (by rfl) T.b_isinstance (by decide +kernel) (pa_cons (pv 0) (pa_cons (pe_bltn (v := .ty "bool") (by rfl) T.b_bool (by decide +kernel) rfl) pa_nil)))) (pw_or1 (pt_not (pt_val (pe_callB (cIsi K) (by rfl) T.b_isinstance (by decide +kernel) (pa_cons (pv 0) (pa_cons (pe_bltn (v := .ty "int") (by rfl) T.b_int (by decide +kernel) rfl) pa_nil))))))).pt (pss_one (ps_ret pe_bl)) pss_nil) (pss_one (ps_ret (pe_chain op_leP op_leP (pv 1) (pv 0) (pv 2))))), ?_⟩
  show (_ : TS) { nx := fun _ H' => Q .non H', rt := Q } [some x, some y, some z] H
  obtain ⟨d, lo, hi, hx, rfl, rfl, q⟩ := h
  cases d
  case int i =>
    obtain rfl := hx.intd
    rw [isIn_int] at q
    walk_at "go"
    refine i_dec (fun e => ?_) (fun e => ?_)
    · walk_at "go"
      rw [decide_eq_true e, Bool.true_and] at q
      exact q
    · rw [decide_eq_false e, Bool.false_and] at q
      exact q
  case bool b =>
    walk_at "go"
    refine i_isiBool true hx rfl ?_
    walk_at "go"
    exact q
  all_goals
    walk_at "go"
    refine i_isiBool false hx rfl ?_
    walk_at "go"
    refine i_isiInt false hx rfl ?_
    walk_at "go"
    exact q
def p_deepN (n : Nat) : P2 := fun x y H Q _ => ∃ A d z, Same A H ∧ At A x d ∧ y = .int z ∧ 0 ≤ z ∧ z + n ≤ 65 ∧ d.depth < n ∧ ∀ A' H' v, Ext A H A' H' → At A' v (deepD d) → Q v H'
theorem deep_n (T : Txt K mg C_GlimError C_BadRow C_BadReader C_Reader) (n : Nat) (R : OK P w K mg base CX0 n "deep" ["thing", "level"] (sp2 (p_deepN n))) : OKD P w K mg base CX0 (n + 1) "deep" ["thing", "level"] [.int 0] (sp2 (p_deepN (n + 1))) := by
  refine OKD.mk (k := n) T.d_deep sc_deep len2 fun f cdv A outer s H vs Q E hr h => ?_
  obtain ⟨x, y, rfl, h⟩ := h
  refine ⟨_, (pss_cons (ps_if (pw_and (pt_val (pe_callB (cIsiT K) (by rfl) T.b_isinstance (by decide +kernel) (pa_cons (pv 0) (pa_cons (pe_tup (pa_cons (pe_bltn (v := .ty "list") (by rfl) T.b_list (by decide +kernel) rfl) (pa_cons (pe_bltn (v := .ty "tuple") (by rfl) T.b_tuple (by decide +kernel) rfl) pa_nil))) pa_nil)))) (pw_and1 (pt_cmpR op_ltP (pv 1) (pe_gI (70) T.g_MOST_LEVELS) (nomark _)))).pt (pss_one (ps_ret (pe_callTy (cTup K) (by rfl) T.b_tuple (by decide +kernel) (pa_cons (pe_lc (own := [("part", 2)]) (g := gName 2) (tt := tYes) (by rfl) sc_deep.nd (piAny K (pv 0)) (blkOk_by (own := [("part", 2)]) (N := ["thing", "level", "part"]) (sc := (defScope s_deep)) (by decide +kernel)) (fun _ _ _ _ _ => (pg_name (i := 2) sc_deep.nd rfl (Or.inl rfl))) (fun _ _ _ _ _ => pts_nil) (fun _ _ _ _ _ => (pe_f R (hr.mono (by omega)) pass0 (pa_cons (pv 2) (pa_cons (pe_op (opAdd K) (pv 1) pe_int) pa_nil))))) pa_nil)))) pss_nil) (pss_one (ps_ret (pv 0)))), ?_⟩
  show (_ : TS) { nx := fun _ H' => Q .non H', rt := Q } [some x, some y, none] H
  obtain ⟨A, d, z, sa, hx, rfl, z0, zn, dd, q⟩ := h
  walk_at "go"
  refine i_new (by show 2 ≤ 100000; omega) fun tp ntp => ?_
  have x1 := (Ext.refl sa).hid (o := .tup [.ty "list", .ty "tuple"]) ntp
  walk_at "go"
  cases d
  case list ds =>
    obtain ⟨a, xs, rfl, hH, hl, al⟩ := hx.listed
    have e1 : deepD (.list ds) = .tuple (ds.map deepD) := by rw [← deepDs_map]; rfl
    have d1 : PyData.depthAll ds + 1 < n + 1 := dd
    rw [e1] at q
    refine i_isiSeq true (x1.up hx) upd_same rfl ?_
    walk_at "go"
    rw [decide_eq_true (show z < 70 by omega)]
    walk_at "go"
    refine Fg.c_lstD x1.ag (fun R k => by walk_at "go"; exact k) (.inl (.inl (x1.ag _ _ hH))) al hl deepD (fun _ => rfl) (fun y d A1 G1 hd hy y1 QV k => ?_) (fun Dl A1 G1 l y1 e ea al2 ll => ?_)
    · show (_ : TE) [some (.ref a), some (.int z), some y] G1 QV
      have d2 := depth_mem hd
      walk_at "go"
      exact ⟨A1, d, z + 1, y1.ag, hy, rfl, by omega, by omega, by omega, k⟩
    · walk_at "go"
      refine i_tuple_lst (.inl (.inl e)) fun tl ntl => ?_
      have na : A1 tl = none := y1.ag.free ntl
      have hds := al.len
      exact q _ _ _ ((x1.trans y1).new ntl) (At.mkTup upd_same (al2.same (same_upd na)) (by rw [List.length_map]; omega))
  case tuple ds =>
    obtain ⟨a, xs, rfl, hH, hl, al⟩ := hx.tupled
    have e1 : deepD (.tuple ds) = .tuple (ds.map deepD) := by rw [← deepDs_map]; rfl
    have d1 : PyData.depthAll ds + 1 < n + 1 := dd
    rw [e1] at q
    refine i_isiSeq true (x1.up hx) upd_same rfl ?_
    walk_at "go"
    rw [decide_eq_true (show z < 70 by omega)]
    walk_at "go"
    refine c_tupD x1.ag (fun R k => by walk_at "go"; exact k) (.inl (.inl (x1.ag _ _ hH))) al hl deepD (fun _ => rfl) (fun y d A1 G1 hd hy y1 QV k => ?_) (fun Dl A1 G1 l y1 e ea al2 ll => ?_)
    · show (_ : TE) [some (.ref a), some (.int z), some y] G1 QV
      have d2 := depth_mem hd
      walk_at "go"
      exact ⟨A1, d, z + 1, y1.ag, hy, rfl, by omega, by omega, by omega, k⟩
    · walk_at "go"
      refine i_tuple_lst (.inl (.inl e)) fun tl ntl => ?_
      have na : A1 tl = none := y1.ag.free ntl
      have hds := al.len
      exact q _ _ _ ((x1.trans y1).new ntl) (At.mkTup upd_same (al2.same (same_upd na)) (by rw [List.length_map]; omega))
  all_goals
    refine i_isiSeq false (x1.up hx) upd_same rfl ?_
    walk_at "go"
    exact q _ _ _ x1 hx
theorem deep_all (T : Txt K mg C_GlimError C_BadRow C_BadReader C_Reader) : ∀ n, OK P w K mg base CX0 n "deep" ["thing", "level"] (sp2 (p_deepN n))
  | 0 => OK.weak (OK.never T.d_deep) fun vs H Q E h => by
    obtain ⟨_, _, _, _, _, _, _, _, _, _, z, _⟩ := h
    omega
  | n + 1 => (deep_n T n (deep_all T n)).full
theorem ok_deep (T : Txt K mg C_GlimError C_BadRow C_BadReader C_Reader) : OKD P w K mg base CX0 6 "deep" ["thing", "level"] [.int 0] (sp2 (p_deepN 6)) := deep_n T 5 (deep_all T 5)
end
end K47
namespace K47
open PySem PySem.Spec PyProof.Rows L2 Fg
local macro_rules | `(tactic| walk_at "sq") => `(tactic| first
  | assumption
  | exact .inl (.inl (by assumption))
  | exact .inl (.inl upd_same))
local macro_rules | `(tactic| walk_at "st") => `(tactic| first
  | assumption
  | exact .inl (.inl (by assumption))
  | exact .inl (.inl upd_same))
local macro_rules | `(tactic| walk_at "o") => `(tactic| first
  | omega
  | assumption
  | (simp only [List.length_append, List.length_take, List.length_drop, List.length_cons, List.length_nil, List.length_singleton, List.length_map, List.length_range, Int.toNat_natCast] ; omega))
local macro_rules | `(tactic| walk_at "s") => `(tactic| first
  | (with_reducible refine i_seq ?_)
  | (with_reducible refine i_asg ?_)
  | ((with_reducible refine' i_var ?h1 ?_); (case h1 => rfl))
  | (with_reducible refine i_c ?_)
  | ((with_reducible refine' i_gname' ?h1 ?_); (case h1 => (simp only [List.set_cons_zero, List.set_cons_succ]; rfl)))
  | (with_reducible refine i_op ?_)
  | (with_reducible refine i_ifS ?_)
  | (with_reducible refine i_for ?_)
  | (with_reducible refine i_test ?_)
  | (with_reducible refine i_B ?_)
  | (with_reducible refine i_exbl ?_)
  | (with_reducible refine i_exint ?_)
  | (with_reducible refine i_cb ?_)
  | (with_reducible refine i_nil ?_)
  | (with_reducible refine i_cons ?_)
  | (with_reducible refine i_ret ?_)
  | (with_reducible refine i_sl ?_)
  | (with_reducible refine i_nopart ?_)
  | (with_reducible refine i_part ?_)
  | (with_reducible refine i_add_int ?_)
  | (with_reducible refine i_sub ?_)
  | (with_reducible refine i_lt ?_)
  | ((with_reducible refine' i_mod ?h1 ?_); (case h1 => walk_at "o"))
  | ((with_reducible refine' i_fdiv ?h1 ?_); (case h1 => (refine cdiv_small ?_ ?_ <;> walk_at "o")))
  | ((with_reducible refine' i_sl_to ?h1 ?h2 ?_); (case h1 => walk_at "o"); (case h2 => walk_at "o"))
  | ((with_reducible refine' i_sl_from ?h1 ?h2 ?_); (case h1 => walk_at "o"); (case h2 => walk_at "o"))
  | ((with_reducible refine' i_add_str ?h1 ?_); (case h1 => walk_at "o"))
  | ((with_reducible refine' i_mul_int ?h1 ?_); (case h1 => first | (refine mul_small ?_ ?_ <;> walk_at "o") | (refine mul_smallR ?_ ?_ <;> walk_at "o")))
  | (with_reducible refine i_le ?_)
  | (with_reducible refine i_gt ?_)
  | (with_reducible refine i_ge ?_)
  | (with_reducible refine i_eq_int ?_)
  | (with_reducible refine i_eq_str ?_)
  | (with_reducible refine i_ne_int ?_)
  | (with_reducible refine i_ne_str ?_)
  | (with_reducible refine i_eq_bl ?_)
  | (with_reducible refine i_ne_bl ?_)
  | (with_reducible refine i_in_sg ?_)
  | (with_reducible refine i_notIn_sg ?_)
  | (with_reducible refine i_call ?_)
  | (with_reducible refine i_callS ?_)
  | (with_reducible refine i_sp1 ?_)
  | (with_reducible refine i_sp2 ?_)
  | (with_reducible refine i_sp3 ?_)
  | (with_reducible refine i_sp4 ?_)
  | (with_reducible refine i_sp1' ?_)
  | (with_reducible refine i_sp2' ?_)
  | (with_reducible refine i_sp3' ?_)
  | ((with_reducible refine' i_ix_lst ?h1 ?h2 ?_); (case h1 => walk_at "sq"); (case h2 => first | exact atI_nat rfl | rfl))
  | ((with_reducible refine' i_ix_tup ?h1 ?h2 ?_); (case h1 => walk_at "st"); (case h2 => first | exact atI_nat rfl | rfl))
  | (with_reducible refine i_gsub ?_)
  | (with_reducible refine i_par ?_)
  | (with_reducible refine i_lstRg1 ?_)
  | (with_reducible refine i_app ?_)
  | (with_reducible refine i_par2 ?_)
  | ((with_reducible refine' i_aug ?h1 ?_); (case h1 => rfl))
  | (with_reducible refine i_ipI ?_)
  | ((with_reducible refine' i_gtup2 ?h1 ?_); (case h1 => walk_at "st"))
  | (with_reducible refine i_int_bl ?_)
  | (with_reducible refine i_raise ?_)
  | (with_reducible refine i_mkE ?_)
  | (with_reducible refine i_ex1 ?_)
  | (with_reducible refine i_and ?_)
  | (with_reducible refine i_or ?_)
  | (with_reducible refine i_not ?_)
  | (with_reducible refine i_tt ?_)
  | (with_reducible refine i_ff ?_)
  | (with_reducible refine i_nott ?_)
  | (with_reducible refine i_notf ?_)
  | (with_reducible refine i_andV ?_)
  | (with_reducible refine i_orV ?_)
  | (with_reducible refine i_notV ?_)
  | (with_reducible refine i_ifE ?_)
  | (with_reducible refine i_tup ?_)
  | (with_reducible refine i_lst ?_)
  | (with_reducible refine i_un ?_)
  | (with_reducible refine i_neg ?_)
  | (with_reducible refine i_chain ?_)
  | (with_reducible refine i_next ?_)
  | (with_reducible refine i_retN ?_)
  | (with_reducible refine i_drop ?_)
  | (with_reducible refine i_int_int ?_)
  | (with_reducible refine i_abs ?_)
  | (with_reducible refine i_m1c ?_)
  | (with_reducible refine i_is_non ?_)
  | (with_reducible refine i_is_int ?_)
  | (with_reducible refine i_is_bl ?_)
  | (with_reducible refine i_isn_bl ?_)
  | (with_reducible refine i_is_str ?_)
  | (with_reducible refine i_is_ref ?_)
  | (with_reducible refine i_isn_non ?_)
  | (with_reducible refine i_isn_int ?_)
  | (with_reducible refine i_isn_str ?_)
  | (with_reducible refine i_isn_ref ?_)
  | (with_reducible refine i_len_str ?h1 ?_; (case h1 => walk_at "o"))
  | (with_reducible refine i_callD ?_)
  | (with_reducible refine i_spD2 ?_)
  | (with_reducible refine i_spM1 ?_)
  | (with_reducible refine i_spM2 ?_)
  | (with_reducible refine i_spM3 ?_)
  | (with_reducible refine i_spM4 ?_)
  | (with_reducible refine i_spM3d ?_)
  | (with_reducible refine i_tfld ?_)
  | (with_reducible refine i_sfld ?_)
  | (with_reducible refine i_meth ?_)
  | (with_reducible refine i_make ?_)
  | (with_reducible refine i_spl ?_)
  | (with_reducible refine i_mkE2 ?_)
  | (with_reducible refine i_ex2 ?_)
  | (with_reducible refine i_dget ?_)
  | (with_reducible refine i_tru ?_)
  | (with_reducible refine i_dput ?_)
  | (with_reducible refine i_dnotin ?_)
  | (with_reducible refine i_din ?_)
  | (with_reducible refine i_rev ?_)
  | (with_reducible refine i_isi_int_int ?_) | (with_reducible refine i_isi_int_bool ?_) | (with_reducible refine i_isi_int_str ?_) | (with_reducible refine i_isi_int_tuple ?_) | (with_reducible refine i_isi_int_list ?_)
  | (with_reducible refine i_isi_bl_int ?_) | (with_reducible refine i_isi_bl_bool ?_) | (with_reducible refine i_isi_bl_str ?_) | (with_reducible refine i_isi_bl_tuple ?_) | (with_reducible refine i_isi_bl_list ?_)
  | (with_reducible refine i_isi_str_int ?_) | (with_reducible refine i_isi_str_bool ?_) | (with_reducible refine i_isi_str_str ?_) | (with_reducible refine i_isi_str_tuple ?_) | (with_reducible refine i_isi_str_list ?_)
  | (with_reducible refine i_isi_non_int ?_) | (with_reducible refine i_isi_non_bool ?_) | (with_reducible refine i_isi_non_str ?_) | (with_reducible refine i_isi_non_tuple ?_) | (with_reducible refine i_isi_non_list ?_))
local macro_rules | `(tactic| walk_at "go") => `(tactic| (repeat' (walk_at "s")))
local macro_rules | `(tactic| walk_at "n") => `(tactic| simp only [wipe, List.map_cons, List.map_nil, List.set_cons_zero, List.set_cons_succ])
abbrev MK : List Nat := [97, 98, 99, 100, 101, 102, 103, 104, 105, 106, 107, 108, 109, 110, 111, 112, 113, 114, 115, 116, 117, 118, 119, 120, 121, 122, 48, 49, 50, 51, 52, 53, 54, 55, 56, 57]
def isMkL (l : List Nat) : Bool := decide (l.length ≤ 8) && l.all fun c => decide (c ∈ MK)
def isMk : PyData → Bool
  | .str x => isMkL x.cps.toList
  | _ => false
theorem all_take {l : List Nat} {P : Nat → Prop} (h : ∀ c ∈ l.take l.length, P c) : ∀ c ∈ l, P c := by rw [List.take_length] at h; exact h
theorem take_step {l : List Nat} {P : Nat → Prop} {i c : Nat} (hc : l[i]? = some c) (h : ∀ c ∈ l.take i, P c) (k : P c) : ∀ c ∈ l.take (i + 1), P c := by
  rw [List.take_succ, hc]
  intro x hx
  rcases List.mem_append.mp hx with hx | hx
  · exact h x hx
  · have : x = c := by simpa using hx
    rw [this]; exact k
section
variable {P : Program} {w : World} {K : PySem.W.Frag} {mg : Str → Option Value} {base : Heap} {C_GlimError C_BadRow C_BadReader C_Reader : Addr}
def p_is_mark : P1 := fun x H Q _ => ∃ d, At H x d ∧ Q (.bl (isMk d)) H
theorem ok_is_mark (T : Txt K mg C_GlimError C_BadRow C_BadReader C_Reader) : OK P w K mg base CX0 1 "is_mark" ["thing"] (sp1  p_is_mark) := by
  refine OK.mk (k := 0) T.d_is_mark sc_is_mark len1 fun f cdv A outer s H vs Q E hr h => ?_
  obtain ⟨x, rfl, h⟩ := h
  refine ⟨_, (pss_cons (ps_if (pw_or (pt_not (pt_val (pe_callB (cIsi K) (by rfl) T.b_isinstance (by decide +kernel) (pa_cons (pv 0) (pa_cons (pe_bltn (v := .ty "str") (by rfl) T.b_str (by decide +kernel) rfl) pa_nil))))) (pw_or1 (pt_cmpR op_gtP (pe_callB (cLen K) (by rfl) T.b_len (by decide +kernel) (pa_cons (pv 0) pa_nil)) pe_int (nomark _)))).pt (pss_one (ps_ret pe_bl)) pss_nil) (pss_cons (ps_for PassesOwn.never rfl (piAny K (pv 0)) (pg_name (i := 1) sc_is_mark.nd rfl (Or.inl rfl)) (pss_one (ps_if (pt_cmpR (opNotIn K) (pv 1) (pe_gS [97, 98, 99, 100, 101, 102, 103, 104, 105, 106, 107, 108, 109, 110, 111, 112, 113, 114, 115, 116, 117, 118, 119, 120, 121, 122, 48, 49, 50, 51, 52, 53, 54, 55, 56, 57] T.g_MARK_SIGNS) (by with_unfolding_all rfl)) (pss_one (ps_ret pe_bl)) pss_nil))) (pss_one (ps_ret pe_bl)))), ?_⟩
  show (_ : TS) { nx := fun _ H' => Q .non H', rt := Q } [some x, none] H
  obtain ⟨d, hx, q⟩ := h
  cases d
  case str z =>
    obtain ⟨l, rfl, rfl, hl⟩ := hx.strl
    change Q (.bl (isMkL l)) H at q
    unfold isMkL at q
    walk_at "go"
    refine i_dec (fun e => ?_) (fun e => ?_)
    · rw [decide_eq_false (show ¬ l.length ≤ 8 by omega), Bool.false_and] at q
      walk_at "go"
      exact q
    rw [decide_eq_true (show l.length ≤ 8 by omega), Bool.true_and] at q
    walk_at "go"
    refine i_forS (fun i σ' H' => ∃ v, σ' = [some (S l), v] ∧ H' = H ∧ ∀ c ∈ l.take i, c ∈ MK) ⟨none, rfl, rfl, by simp⟩ ?_ ?_
    · rintro i c σ' H' hc ⟨v, rfl, rfl, hm⟩
      show (_ : TS) _ [some (S l), some (S [c])] H'
      walk_at "go"
      refine i_decN (fun e => ?_) (fun e => ?_)
      · have : (l.all fun c => decide (c ∈ MK)) = false := by
          rw [List.all_eq_false]
          exact ⟨c, List.mem_of_getElem? hc, by simpa using e⟩
        rw [this] at q
        walk_at "go"
        exact q
      · walk_at "go"
        exact ⟨_, rfl, rfl, take_step hc hm e⟩
    · rintro σ' H' ⟨v, rfl, rfl, hm⟩
      have hm := all_take hm
      have : (l.all fun c => decide (c ∈ MK)) = true := List.all_eq_true.mpr fun c hc => decide_eq_true (hm c hc)
      rw [this] at q
      walk_at "go"
      exact q
  all_goals
    walk_at "go"
    refine i_isiStr false hx rfl ?_
    walk_at "go"
    exact q
/-- a reader's state: its word, the states behind the four signs -/
def isRS (m : Int) : PyData → Bool
  | .tuple [w, .tuple ns] => isMk w && (decide (ns.length = 4) && ns.all fun d => isIn d 0 (m - 1))
  | _ => false
def p_is_rs : P2 := fun x y H Q _ => ∃ d m, At H x d ∧ y = .int m ∧ Q (.bl (isRS m d)) H
theorem ok_is_reader_state (T : Txt K mg C_GlimError C_BadRow C_BadReader C_Reader) : OK P w K mg base CX0 2 "is_reader_state" ["thing", "many"] (sp2  p_is_rs) := by
  refine OK.mk (k := 1) T.d_is_reader_state sc_is_reader_state len2 fun f cdv A outer s H vs Q E hr h => ?_
  obtain ⟨x, y, rfl, h⟩ := h
  refine ⟨_, (pss_cons (ps_if (pw_or (pt_not (pt_val (pe_callB (cIsi K) (by rfl) T.b_isinstance (by decide +kernel) (pa_cons (pv 0) (pa_cons (pe_bltn (v := .ty "tuple") (by rfl) T.b_tuple (by decide +kernel) rfl) pa_nil))))) (pw_or (pt_cmpR (opNe K hr.units) (pe_callB (cLen K) (by rfl) T.b_len (by decide +kernel) (pa_cons (pv 0) pa_nil)) pe_int (nomark _)) (pw_or1 (pt_not (pt_val (pe_f (ok_is_mark (K := K) T) (hr.mono (by decide)) pass0 (pa_cons (pe_ix (ixK K) (pv 0) pe_int (fun _ _ => rfl)) pa_nil))))))).pt (pss_one (ps_ret pe_bl)) pss_nil) (pss_cons (ps_set (i := 2) sc_is_reader_state.nd rfl (Or.inl rfl) (pe_ix (ixK K) (pv 0) pe_int (fun _ _ => rfl))) (pss_cons (ps_if (pw_or (pt_not (pt_val (pe_callB (cIsi K) (by rfl) T.b_isinstance (by decide +kernel) (pa_cons (pv 2) (pa_cons (pe_bltn (v := .ty "tuple") (by rfl) T.b_tuple (by decide +kernel) rfl) pa_nil))))) (pw_or1 (pt_cmpR (opNe K hr.units) (pe_callB (cLen K) (by rfl) T.b_len (by decide +kernel) (pa_cons (pv 2) pa_nil)) (pe_callB (cLen K) (by rfl) T.b_len (by decide +kernel) (pa_cons (pe_gS [46, 103, 114, 119] T.g_SIGNS) pa_nil)) (nomark _)))).pt (pss_one (ps_ret pe_bl)) pss_nil) (pss_cons (ps_for PassesOwn.never rfl (piAny K (pv 2)) (pg_name (i := 3) sc_is_reader_state.nd rfl (Or.inl rfl)) (pss_one (ps_if (pt_not (pt_val (pe_f (ok_is_integer (K := K) T) (hr.mono (by decide)) pass0 (pa_cons (pv 3) (pa_cons pe_int (pa_cons (pe_op op_subP (pv 1) pe_int) pa_nil)))))) (pss_one (ps_ret pe_bl)) pss_nil))) (pss_one (ps_ret pe_bl)))))), ?_⟩
  show (_ : TS) { nx := fun _ H' => Q .non H', rt := Q } [some x, some y, none, none] H
  obtain ⟨d, m, hx, rfl, q⟩ := h
  cases d
  case tuple ds =>
    obtain ⟨a, xs, rfl, hH, hl, al⟩ := hx.tupled
    have ll := al.len
    walk_at "go"
    refine i_isiTup true hx rfl ?_
    walk_at "go"
    refine i_len_tup (.inl (.inl hH)) ?_
    walk_at "go"
    rw [ll]
    refine i_decN (fun e => ?_) (fun e => ?_)
    · have : isRS m (.tuple ds) = false := by
        unfold isRS
        split
        · next h => cases h; exact absurd rfl e
        · rfl
      rw [this] at q
      walk_at "go"
      exact q
    obtain ⟨w, n, rfl⟩ : ∃ w n, ds = [w, n] := by
      match ds, e with
      | [w, n], _ => exact ⟨w, n, rfl⟩
      | [], e => exact absurd e (by simp)
      | [_], e => exact absurd e (by simp)
      | _ :: _ :: _ :: _, e => exact absurd e (by simp; omega)
    obtain ⟨v0, hv0, a0⟩ := al.at (i := 0) (d := w) rfl
    obtain ⟨v1, hv1, a1⟩ := al.at (i := 1) (d := n) rfl
    walk_at "go"
    refine i_ix_tup (v := v0) (.inl (.inl hH)) (atI_int (by decide) hv0) ?_
    walk_at "go"
    refine ⟨w, a0, ?_⟩
    refine ⟨_, rfl, ?_⟩
    have isn : isTupD n = false → isRS m (.tuple [w, n]) = false := fun h => by
      cases n <;> first
        | rfl
        | cases h
    cases em : isMk w with
    | false =>
      have : isRS m (.tuple [w, n]) = false := by
        cases n <;> first
          | rfl
          | (show (isMk w && _) = false
             rw [em]; rfl)
      rw [this] at q
      walk_at "go"
      exact q
    | true =>
      walk_at "go"
      refine i_ix_tup (v := v1) (.inl (.inl hH)) (atI_int (by decide) hv1) ?_
      walk_at "go"
      cases et : isTupD n with
      | false =>
        rw [isn et] at q
        refine i_isiTup false a1 et ?_
        walk_at "go"
        exact q
      | true =>
        obtain ⟨ns, rfl⟩ : ∃ ns, n = .tuple ns := by
          cases n <;> first
            | exact ⟨_, rfl⟩
            | cases et
        obtain ⟨a2, ys, rfl, hN, hl2, al2⟩ := a1.tupled
        have l2 := al2.len
        refine i_isiTup true a1 rfl ?_
        walk_at "go"
        refine i_len_tup (.inl (.inl hN)) ?_
        walk_at "go"
        have q : Q (.bl (isMk w && (decide (ns.length = 4) && ns.all fun d => isIn d 0 (m - 1)))) H := q
        rw [em, Bool.true_and] at q
        refine i_decN (fun e4 => ?_) (fun e4 => ?_)
        · have : decide (ns.length = 4) = false := decide_eq_false (fun z => e4 (by rw [l2, z]; rfl))
          rw [this, Bool.false_and] at q
          walk_at "go"
          exact q
        have e5 : (ys.length : Int) = 4 := e4
        rw [decide_eq_true (show ns.length = 4 by omega), Bool.true_and] at q
        walk_at "go"
        refine i_forT (xs := ys) (.inl (.inl hN)) (fun i σ' H' => ∃ v, σ' = [some (.ref a), some (.int m), some (.ref a2), v] ∧ H' = H ∧ ∀ k < i, ∀ c, ns[k]? = some c → isIn c 0 (m - 1) = true) ⟨none, rfl, rfl, fun k hk => absurd hk (Nat.not_lt_zero _)⟩ ?_ ?_ ?_
        · rintro i σ' H' _ ⟨v, rfl, rfl, _⟩
          exact .inl (.inl hN)
        · rintro i x σ' H' hi ⟨v, rfl, rfl, hm⟩
          obtain ⟨c, hc, ac⟩ := al2.get hi
          show (_ : TS) _ [some (.ref a), some (.int m), some (.ref a2), some x] H'
          walk_at "go"
          refine ⟨c, 0, m - 1, ac, rfl, rfl, ?_⟩
          refine ⟨_, rfl, ?_⟩
          cases ei : isIn c 0 (m - 1) with
          | false =>
            have : (ns.all fun d => isIn d 0 (m - 1)) = false := by
              rw [List.all_eq_false]
              exact ⟨c, List.mem_of_getElem? hc, by rw [ei]; decide⟩
            rw [this] at q
            walk_at "go"
            exact q
          | true =>
            walk_at "go"
            refine ⟨_, rfl, rfl, fun k hk c' hc' => ?_⟩
            rcases Nat.lt_or_ge k i with h | h
            · exact hm k h c' hc'
            · obtain rfl : k = i := by omega
              rw [hc] at hc'
              cases hc'
              exact ei
        · rintro σ' H' ⟨v, rfl, rfl, hm⟩
          have : (ns.all fun d => isIn d 0 (m - 1)) = true := List.all_eq_true.mpr fun c hc => by
            obtain ⟨k, hk, e⟩ := List.mem_iff_getElem.mp hc
            exact hm k (by omega) c (by rw [List.getElem?_eq_getElem hk, e])
          rw [this] at q
          walk_at "go"
          exact q
  all_goals
    walk_at "go"
    refine i_isiTup false hx rfl ?_
    walk_at "go"
    exact q
end
end K47
namespace K47
open PySem PySem.Spec PyProof.Rows L2 Fg
local macro_rules | `(tactic| walk_at "sq") => `(tactic| first
  | assumption
  | exact .inl (.inl (by assumption))
  | exact .inl (.inl upd_same))
local macro_rules | `(tactic| walk_at "st") => `(tactic| first
  | assumption
  | exact .inl (.inl (by assumption))
  | exact .inl (.inl upd_same))
local macro_rules | `(tactic| walk_at "o") => `(tactic| first
  | omega
  | assumption
  | (simp only [List.length_append, List.length_take, List.length_drop, List.length_cons, List.length_nil, List.length_singleton, List.length_map, List.length_range, Int.toNat_natCast] ; omega))
local macro_rules | `(tactic| walk_at "s") => `(tactic| first
  | (with_reducible refine i_seq ?_)
  | (with_reducible refine i_asg ?_)
  | ((with_reducible refine' i_var ?h1 ?_); (case h1 => rfl))
  | (with_reducible refine i_c ?_)
  | ((with_reducible refine' i_gname' ?h1 ?_); (case h1 => (simp only [List.set_cons_zero, List.set_cons_succ]; rfl)))
  | (with_reducible refine i_op ?_)
  | (with_reducible refine i_ifS ?_)
  | (with_reducible refine i_for ?_)
  | (with_reducible refine i_test ?_)
  | (with_reducible refine i_B ?_)
  | (with_reducible refine i_exbl ?_)
  | (with_reducible refine i_exint ?_)
  | (with_reducible refine i_cb ?_)
  | (with_reducible refine i_nil ?_)
  | (with_reducible refine i_cons ?_)
  | (with_reducible refine i_ret ?_)
  | (with_reducible refine i_sl ?_)
  | (with_reducible refine i_nopart ?_)
  | (with_reducible refine i_part ?_)
  | (with_reducible refine i_add_int ?_)
  | (with_reducible refine i_sub ?_)
  | (with_reducible refine i_lt ?_)
  | ((with_reducible refine' i_mod ?h1 ?_); (case h1 => walk_at "o"))
  | ((with_reducible refine' i_fdiv ?h1 ?_); (case h1 => (refine cdiv_small ?_ ?_ <;> walk_at "o")))
  | ((with_reducible refine' i_sl_to ?h1 ?h2 ?_); (case h1 => walk_at "o"); (case h2 => walk_at "o"))
  | ((with_reducible refine' i_sl_from ?h1 ?h2 ?_); (case h1 => walk_at "o"); (case h2 => walk_at "o"))
  | ((with_reducible refine' i_add_str ?h1 ?_); (case h1 => walk_at "o"))
  | ((with_reducible refine' i_mul_int ?h1 ?_); (case h1 => first | (refine mul_small ?_ ?_ <;> walk_at "o") | (refine mul_smallR ?_ ?_ <;> walk_at "o")))
  | (with_reducible refine i_le ?_)
  | (with_reducible refine i_gt ?_)
  | (with_reducible refine i_ge ?_)
  | (with_reducible refine i_eq_int ?_)
  | (with_reducible refine i_eq_str ?_)
  | (with_reducible refine i_ne_int ?_)
  | (with_reducible refine i_ne_str ?_)
  | (with_reducible refine i_eq_bl ?_)
  | (with_reducible refine i_ne_bl ?_)
  | (with_reducible refine i_in_sg ?_)
  | (with_reducible refine i_notIn_sg ?_)
  | (with_reducible refine i_call ?_)
  | (with_reducible refine i_callS ?_)
  | (with_reducible refine i_sp1 ?_)
  | (with_reducible refine i_sp2 ?_)
  | (with_reducible refine i_sp3 ?_)
  | (with_reducible refine i_sp4 ?_)
  | (with_reducible refine i_sp1' ?_)
  | (with_reducible refine i_sp2' ?_)
  | (with_reducible refine i_sp3' ?_)
  | ((with_reducible refine' i_ix_lst ?h1 ?h2 ?_); (case h1 => walk_at "sq"); (case h2 => first | exact atI_nat rfl | rfl))
  | ((with_reducible refine' i_ix_tup ?h1 ?h2 ?_); (case h1 => walk_at "st"); (case h2 => first | exact atI_nat rfl | rfl))
  | (with_reducible refine i_gsub ?_)
  | (with_reducible refine i_par ?_)
  | (with_reducible refine i_lstRg1 ?_)
  | (with_reducible refine i_app ?_)
  | (with_reducible refine i_par2 ?_)
  | ((with_reducible refine' i_aug ?h1 ?_); (case h1 => rfl))
  | (with_reducible refine i_ipI ?_)
  | ((with_reducible refine' i_gtup2 ?h1 ?_); (case h1 => walk_at "st"))
  | (with_reducible refine i_int_bl ?_)
  | (with_reducible refine i_raise ?_)
  | (with_reducible refine i_mkE ?_)
  | (with_reducible refine i_ex1 ?_)
  | (with_reducible refine i_and ?_)
  | (with_reducible refine i_or ?_)
  | (with_reducible refine i_not ?_)
  | (with_reducible refine i_tt ?_)
  | (with_reducible refine i_ff ?_)
  | (with_reducible refine i_nott ?_)
  | (with_reducible refine i_notf ?_)
  | (with_reducible refine i_andV ?_)
  | (with_reducible refine i_orV ?_)
  | (with_reducible refine i_notV ?_)
  | (with_reducible refine i_ifE ?_)
  | (with_reducible refine i_tup ?_)
  | (with_reducible refine i_lst ?_)
  | (with_reducible refine i_un ?_)
  | (with_reducible refine i_neg ?_)
  | (with_reducible refine i_chain ?_)
  | (with_reducible refine i_next ?_)
  | (with_reducible refine i_retN ?_)
  | (with_reducible refine i_drop ?_)
  | (with_reducible refine i_int_int ?_)
  | (with_reducible refine i_abs ?_)
  | (with_reducible refine i_m1c ?_)
  | (with_reducible refine i_is_non ?_)
  | (with_reducible refine i_is_int ?_)
  | (with_reducible refine i_is_bl ?_)
  | (with_reducible refine i_isn_bl ?_)
  | (with_reducible refine i_is_str ?_)
  | (with_reducible refine i_is_ref ?_)
  | (with_reducible refine i_isn_non ?_)
  | (with_reducible refine i_isn_int ?_)
  | (with_reducible refine i_isn_str ?_)
  | (with_reducible refine i_isn_ref ?_)
  | (with_reducible refine i_len_str ?h1 ?_; (case h1 => walk_at "o"))
  | (with_reducible refine i_callD ?_)
  | (with_reducible refine i_spD2 ?_)
  | (with_reducible refine i_spM1 ?_)
  | (with_reducible refine i_spM2 ?_)
  | (with_reducible refine i_spM3 ?_)
  | (with_reducible refine i_spM4 ?_)
  | (with_reducible refine i_spM3d ?_)
  | (with_reducible refine i_tfld ?_)
  | (with_reducible refine i_sfld ?_)
  | (with_reducible refine i_meth ?_)
  | (with_reducible refine i_make ?_)
  | (with_reducible refine i_spl ?_)
  | (with_reducible refine i_mkE2 ?_)
  | (with_reducible refine i_ex2 ?_)
  | (with_reducible refine i_dget ?_)
  | (with_reducible refine i_tru ?_)
  | (with_reducible refine i_dput ?_)
  | (with_reducible refine i_dnotin ?_)
  | (with_reducible refine i_din ?_)
  | (with_reducible refine i_rev ?_)
  | (with_reducible refine i_isi_int_int ?_) | (with_reducible refine i_isi_int_bool ?_) | (with_reducible refine i_isi_int_str ?_) | (with_reducible refine i_isi_int_tuple ?_) | (with_reducible refine i_isi_int_list ?_)
  | (with_reducible refine i_isi_bl_int ?_) | (with_reducible refine i_isi_bl_bool ?_) | (with_reducible refine i_isi_bl_str ?_) | (with_reducible refine i_isi_bl_tuple ?_) | (with_reducible refine i_isi_bl_list ?_)
  | (with_reducible refine i_isi_str_int ?_) | (with_reducible refine i_isi_str_bool ?_) | (with_reducible refine i_isi_str_str ?_) | (with_reducible refine i_isi_str_tuple ?_) | (with_reducible refine i_isi_str_list ?_)
  | (with_reducible refine i_isi_non_int ?_) | (with_reducible refine i_isi_non_bool ?_) | (with_reducible refine i_isi_non_str ?_) | (with_reducible refine i_isi_non_tuple ?_) | (with_reducible refine i_isi_non_list ?_))
local macro_rules | `(tactic| walk_at "go") => `(tactic| (repeat' (walk_at "s")))
local macro_rules | `(tactic| walk_at "n") => `(tactic| simp only [wipe, List.map_cons, List.map_nil, List.set_cons_zero, List.set_cons_succ])
abbrev Rws := List (List Nat × List Nat)
def rowD (r : List Nat × List Nat) : PyData := .tuple [dS r.1, .tuple (r.2.map fun n : Nat => .int (n : Int))]
def rowsD (R : Rws) : List PyData := R.map rowD
structure Good (R : Rws) : Prop where
  one : 1 ≤ R.length
  most : R.length ≤ 400
  word : ∀ r ∈ R, isMkL r.1 = true
  four : ∀ r ∈ R, r.2.length = 4
  lt : ∀ r ∈ R, ∀ n ∈ r.2, n < R.length
def wd (R : Rws) (i : Nat) : List Nat := (R.getD i ([], [])).1
def nxs (R : Rws) (i : Nat) : List Nat := (R.getD i ([], [])).2
def nx (R : Rws) (i k : Nat) : Nat := (nxs R i).getD k 0
theorem getD_mem {R : Rws} {i : Nat} (h : i < R.length) : R[i]? = some (wd R i, nxs R i) ∧ (wd R i, nxs R i) ∈ R := by
  have e : R.getD i ([], []) = R[i] := by rw [List.getD_eq_getElem?_getD, List.getElem?_eq_getElem h]; rfl
  have e2 : (wd R i, nxs R i) = R[i] := by
    show ((R.getD i ([], [])).1, (R.getD i ([], [])).2) = _
    rw [e]
  rw [e2]
  exact ⟨List.getElem?_eq_getElem h, List.getElem_mem h⟩
theorem Good.nx {R : Rws} (g : Good R) {i k : Nat} (h : i < R.length) (hk : k < 4) : (nxs R i)[k]? = some (nx R i k) ∧ nx R i k < R.length := by
  have m := (getD_mem h).2
  have l4 := g.four _ m
  have e : (nxs R i)[k]? = some (K47.nx R i k) := by
    unfold K47.nx
    rw [List.getD_eq_getElem?_getD, List.getElem?_eq_getElem (by rw [l4]; exact hk)]
    rfl
  exact ⟨e, g.lt _ m _ (List.mem_of_getElem? e)⟩
/-- a thing that is a pair of states -/
def prD (n1 n2 : Nat) : PyData → Option (Nat × Nat)
  | .tuple [.int i, .int j] => if 0 ≤ i ∧ i < n1 ∧ 0 ≤ j ∧ j < n2 then some (i.toNat, j.toNat) else none
  | .list [.int i, .int j] => if 0 ≤ i ∧ i < n1 ∧ 0 ≤ j ∧ j < n2 then some (i.toNat, j.toNat) else none
  | _ => none
def tupO : PyData → Bool
  | .list _ => false
  | _ => true
theorem prD_some {n1 n2 : Nat} {d : PyData} {p : Nat × Nat} (h : prD n1 n2 d = some p) : p.1 < n1 ∧ p.2 < n2 ∧ (d = .tuple [.int (p.1 : Int), .int (p.2 : Int)] ∨ d = .list [.int (p.1 : Int), .int (p.2 : Int)]) := by
  unfold prD at h
  split at h
  · split at h
    · next i j hc =>
      cases h
      dsimp only
      rw [Int.toNat_of_nonneg hc.1, Int.toNat_of_nonneg hc.2.2.1]
      exact ⟨by omega, by omega, .inl rfl⟩
    · cases h
  · split at h
    · next i j hc =>
      cases h
      dsimp only
      rw [Int.toNat_of_nonneg hc.1, Int.toNat_of_nonneg hc.2.2.1]
      exact ⟨by omega, by omega, .inr rfl⟩
    · cases h
  · cases h
theorem prD_deep (n1 n2 : Nat) : ∀ d : PyData, prD n1 n2 (deepD d) = prD n1 n2 d := by
  intro d
  have two : ∀ ds : List PyData, prD n1 n2 (.tuple (deepD.deepDs ds)) = prD n1 n2 (.tuple ds) ∧ prD n1 n2 (.tuple ds) = prD n1 n2 (.list ds) := fun ds => by
    match ds with
    | [] => exact ⟨rfl, rfl⟩
    | [x] => cases x <;> exact ⟨rfl, rfl⟩
    | [x, y] =>
      cases x <;> first
        | exact ⟨rfl, rfl⟩
        | (cases y <;> exact ⟨rfl, rfl⟩)
    | x :: y :: z :: r =>
      cases x <;> first
        | exact ⟨rfl, rfl⟩
        | (cases y <;> exact ⟨rfl, rfl⟩)
  cases d with
  | list ds => exact (two ds).1.trans (two ds).2
  | tuple ds => exact (two ds).1
  | _ => rfl
def key2 (p : Nat × Nat) : List Key := [.inl (p.1 : Int), .inl (p.2 : Int)]
theorem key2_inj {p q : Nat × Nat} (h : key2 p = key2 q) : p = q := by
  obtain ⟨a, b⟩ := p
  obtain ⟨c, d⟩ := q
  unfold key2 at h
  injection h with h1 h2
  injection h2 with h2 _
  have := Sum.inl.inj h1
  have := Sum.inl.inj h2
  simp only [Prod.mk.injEq]
  omega
/-- the pairs of a table -/
def prs (n1 n2 : Nat) (ds : List PyData) : List (Nat × Nat) := ds.filterMap (prD n1 n2)
def thK (l : List (Nat × Nat)) : List Key → Option V := fun k => if (l.any fun p => decide (key2 p = k)) = true then some (.bl true) else none
theorem thK_nil : thK [] = fun _ => none := by
  funext k
  exact if_neg (by simp)
theorem thK_app (l : List (Nat × Nat)) (p : Nat × Nat) : setKd (thK l) (key2 p) (.bl true) = thK (l ++ [p]) := by
  funext k
  unfold setKd thK
  rw [List.any_append]
  by_cases e : k = key2 p
  · rw [if_pos e, if_pos (by rw [e]; simp)]
  · rw [if_neg e]
    have : (([p] : List (Nat × Nat)).any fun p => decide (key2 p = k)) = false := by
      rw [List.any_cons, List.any_nil, decide_eq_false (fun z => e z.symm)]; rfl
    rw [this, Bool.or_false]
theorem thK_at (l : List (Nat × Nat)) (p : Nat × Nat) : (thK l (key2 p)).isSome = decide (p ∈ l) := by
  unfold thK
  have e : (l.any fun q => decide (key2 q = key2 p)) = decide (p ∈ l) := by
    rw [Bool.eq_iff_iff, decide_eq_true_eq, List.any_eq_true]
    constructor
    · rintro ⟨q, hq, z⟩
      rw [← key2_inj (of_decide_eq_true z)]
      exact hq
    · exact fun h => ⟨p, h, decide_eq_true rfl⟩
  rw [e]
  cases decide (p ∈ l) <;> rfl
/-- one row is right -/
def okAt (R1 R2 : Rws) (l : List (Nat × Nat)) (p : Nat × Nat) (k : Nat) : Bool :=
  decide (wd R1 (nx R1 p.1 k) = wd R2 (nx R2 p.2 k)) && (!decide (wd R1 (nx R1 p.1 k) = []) || decide ((nx R1 p.1 k, nx R2 p.2 k) ∈ l))
def closed (R1 R2 : Rws) (l : List (Nat × Nat)) (p : Nat × Nat) : Bool := (decide (wd R1 p.1 = []) && decide (wd R2 p.2 = [])) && (List.range 4).all fun k => okAt R1 R2 l p k
def wrongAt (R1 R2 : Rws) (l : List (Nat × Nat)) (d : PyData) : Bool := match prD R1.length R2.length d with
  | none => true
  | some p => !closed R1 R2 l p
def judged (R1 R2 : Rws) (ds : List PyData) : Option Int :=
  let l := prs R1.length R2.length ds
  if !decide ((0, 0) ∈ l) && (decide (wd R1 0 = []) || !decide (wd R1 0 = wd R2 0)) then some (-1) else (ds.findIdx? (wrongAt R1 R2 l)).map fun n : Nat => (n : Int)
def oI : Option Int → V
  | none => .non
  | some i => .int i
theorem prs_deep (n1 n2 : Nat) (ds : List PyData) : prs n1 n2 (ds.map deepD) = prs n1 n2 ds := by
  unfold prs
  rw [List.filterMap_map]
  congr 1
  funext d
  exact prD_deep n1 n2 d
theorem judged_deep (R1 R2 : Rws) (ds : List PyData) : judged R1 R2 (ds.map deepD) = judged R1 R2 ds := by
  unfold judged
  dsimp only
  rw [prs_deep, List.findIdx?_map]
  have : (wrongAt R1 R2 (prs R1.length R2.length ds) ∘ deepD) = wrongAt R1 R2 (prs R1.length R2.length ds) := by
    funext d
    show wrongAt _ _ _ (deepD d) = _
    unfold wrongAt
    rw [prD_deep]
  rw [this]
def badRAt (m : Int) (ds : List PyData) : Option Nat := ds.findIdx? fun d => !isRS m d
def badR : PyData → Option Int
  | .tuple ds => if 1 ≤ ds.length ∧ ds.length ≤ 400 then (badRAt ds.length ds).map fun n : Nat => (n : Int) else some (-1)
  | _ => some (-1)
theorem badR_some {m : Int} {ds : List PyData} {n : Nat} {d : PyData} (h : ds[n]? = some d) (hc : isRS m d = false) (hb : ∀ k < n, ∀ c, ds[k]? = some c → isRS m c = true) : badRAt m ds = some n := by
  unfold badRAt
  rw [List.findIdx?_eq_some_iff_getElem]
  obtain ⟨hp, e⟩ := List.getElem?_eq_some_iff.mp h
  refine ⟨hp, by simp [e, hc], fun j hj => ?_⟩
  have := hb j hj (ds[j]) (List.getElem?_eq_getElem (by omega))
  simp [this]
theorem badR_none {m : Int} {ds : List PyData} (hb : ∀ k < ds.length, ∀ c, ds[k]? = some c → isRS m c = true) : badRAt m ds = none := by
  unfold badRAt
  rw [List.findIdx?_eq_none_iff]
  intro x hx
  obtain ⟨k, hk, e⟩ := List.mem_iff_getElem.mp hx
  have := hb k hk x (by rw [List.getElem?_eq_getElem hk, e])
  simp [this]
theorem isRS_row {R : Rws} (g : Good R) {r : List Nat × List Nat} (h : r ∈ R) : isRS R.length (rowD r) = true := by
  show (isMkL r.1 && (decide ((r.2.map fun n : Nat => PyData.int (n : Int)).length = 4) && _)) = true
  rw [g.word r h, List.length_map, decide_eq_true (g.four r h), Bool.true_and, Bool.true_and, List.all_eq_true]
  intro d hd
  obtain ⟨n, hn, rfl⟩ := List.mem_map.mp hd
  have := g.lt r h n hn
  rw [isIn_int, Bool.and_eq_true, decide_eq_true_eq, decide_eq_true_eq]
  omega
theorem badR_good {R : Rws} (g : Good R) : badR (.tuple (rowsD R)) = none := by
  have e : (rowsD R).length = R.length := by unfold rowsD; rw [List.length_map]
  show (if 1 ≤ (rowsD R).length ∧ (rowsD R).length ≤ 400 then (badRAt (rowsD R).length (rowsD R)).map fun n : Nat => (n : Int) else some (-1)) = none
  rw [if_pos (by rw [e]; exact ⟨g.one, g.most⟩), e, badR_none]
  · rfl
  · intro k hk c hc
    unfold rowsD at hc
    rw [List.getElem?_map] at hc
    obtain ⟨r, hr, rfl⟩ := Option.map_eq_some_iff.mp hc
    exact isRS_row g (List.mem_of_getElem? hr)
mutual
theorem deep_lay : ∀ d : PyData, (deepD d).canLay0 = d.canLay0
  | .list ds => by
    show (PyData.tuple (deepD.deepDs ds)).canLay0 = _
    simp only [PyData.canLay0]
    exact deep_lays ds
  | .tuple ds => by
    show (PyData.tuple (deepD.deepDs ds)).canLay0 = _
    simp only [PyData.canLay0]
    exact deep_lays ds
  | .none => rfl
  | .bool _ => rfl
  | .int _ => rfl
  | .str _ => rfl
  | .dict _ => rfl
theorem deep_lays : ∀ ds : List PyData, PyData.canLayAll0 (deepD.deepDs ds) = PyData.canLayAll0 ds
  | [] => rfl
  | d :: r => by
    show PyData.canLayAll0 (deepD d :: deepD.deepDs r) = _
    simp only [PyData.canLayAll0, deep_lay d, deep_lays r]
end
mutual
theorem deep_dep : ∀ d : PyData, (deepD d).depth = d.depth
  | .none => rfl
  | .bool _ => rfl
  | .int _ => rfl
  | .str _ => rfl
  | .list ds => congrArg (· + 1) (deep_deps ds)
  | .tuple ds => congrArg (· + 1) (deep_deps ds)
  | .dict _ => rfl
theorem deep_deps : ∀ ds : List PyData, PyData.depthAll (deepD.deepDs ds) = PyData.depthAll ds
  | [] => rfl
  | d :: r => by
    show max (deepD d).depth (PyData.depthAll (deepD.deepDs r)) = max d.depth (PyData.depthAll r)
    rw [deep_dep d, deep_deps r]
end
/-- the fields of an instance -/
def OF (t : Addr) : List (Str × V) := putF "rows" (.ref t) []
theorem OF_at (t : Addr) : (OF t).lookup ("rows" : Str) = some (.ref t) := by
  unfold OF
  rw [lookup_putF, if_pos rfl]
section
variable {P : Program} {w : World} {K : PySem.W.Frag} {mg : Str → Option Value} {base : Heap} {C_GlimError C_BadRow C_BadReader C_Reader : Addr}
def p_init (C CB : Addr) : P2 := fun x y H Q E => ∃ A p dx d, x = .ref p ∧ Same A H ∧ A p = none ∧ H p = some (.ins C dx []) ∧ At A y d ∧ d.depth < 6 ∧
  (match badR (deepD d) with
    | some n => Rz E H CB "number" (.int n)
    | none => ∀ A' H' t ds, deepD d = .tuple ds → Same A A' → Same A' H' → But p H H' → (∀ b, A b = none → A' b ≠ none → H b = none) → A' p = none → H' p = some (.ins C dx (OF t)) → At A' (.ref t) (.tuple ds) → Q .non H')
theorem ok_Reader___init__ (T : Txt K mg C_GlimError C_BadRow C_BadReader C_Reader) : MkOK P w K mg base (L2.CX P w) 7 "Reader" C_Reader ["self", "rows"] [] (sp2  (p_init C_Reader C_BadReader)) := by
  refine MkOK.mkX (k := 6) T.m_Reader___init__ sc_Reader___init__ len2 fun f cdv A outer s H vs Q E hr h => ?_
  obtain ⟨x, y, rfl, h⟩ := h
  refine ⟨_, (pss_cons (ps_set (i := 2) sc_Reader___init__.nd rfl (Or.inl rfl) (pe_fd (ok_deep (K := K) T) (hr.mono (by decide)) pass0 (pa_cons (pv 1) pa_nil))) (pss_cons (ps_if (pw_or (pt_not (pt_val (pe_callB (cIsi K) (by rfl) T.b_isinstance (by decide +kernel) (pa_cons (pv 2) (pa_cons (pe_bltn (v := .ty "tuple") (by rfl) T.b_tuple (by decide +kernel) rfl) pa_nil))))) (pw_or1 (pt_not (pt_chain op_leP op_leP pe_int (pe_callB (cLen K) (by rfl) T.b_len (by decide +kernel) (pa_cons (pv 2) pa_nil)) (pe_gI (400) T.g_MOST_READER))))).pt (pss_one (ps_raiseP rfl (takes_of rfl rfl rfl rfl) (pmk_E (k := 0) (okx_BadReader T) (hr.mono (by decide)) (pa_cons (pe_un un_neg pe_int) pa_nil)))) pss_nil) (pss_cons (ps_for (passes_of rfl) rfl (piEnumT K rfl T.b_enumerate (pa_cons (pv 2) pa_nil)) (pgTup (n := 2) K rfl (pgs_cons (pg_name (i := 3) sc_Reader___init__.nd rfl (Or.inl rfl)) (pgs_cons (pg_name (i := 4) sc_Reader___init__.nd rfl (Or.inl rfl)) pgs_nil))) (pss_one (ps_if (pt_not (pt_val (pe_f (ok_is_reader_state (K := K) T) (hr.mono (by decide)) pass0 (pa_cons (pv 4) (pa_cons (pe_callB (cLen K) (by rfl) T.b_len (by decide +kernel) (pa_cons (pv 2) pa_nil)) pa_nil))))) (pss_one (ps_raiseP rfl (takes_of rfl rfl rfl rfl) (pmk_E (k := 0) (okx_BadReader T) (hr.mono (by decide)) (pa_cons (pv 3) pa_nil)))) pss_nil))) (pss_one (psFld K (pv 0) (pv 2)))))), ?_⟩
  show (_ : TS) { nx := fun _ H' => Q .non H', rt := Q } [some x, some y, none, none, none] H
  obtain ⟨A0, p, dx, d, rfl, sa, np, ob, hd, dp, q⟩ := h
  walk_at "go"
  refine ⟨A0, d, 0, sa, hd, rfl, by decide, by decide, dp, fun A1 H1 v x1 hv => ?_⟩
  have dp' : (deepD d).depth < 6 := by rw [deep_dep]; exact dp
  have hv1 := hv.same x1.ag
  have np1 : A1 p = none := x1.free np (by rw [ob]; simp)
  have ob1 := x1.gg _ _ ob
  generalize deepD d = D at *
  have other : isTupD D = false → badR D = some (-1) := fun h => by
    cases D <;> first
      | rfl
      | cases h
  walk_at "go"
  cases e : isTupD D with
  | false =>
    rw [other e] at q
    refine i_isiTup false hv1 e ?_
    walk_at "go"
    intro dd nd
    exact Rz.at (Rz.mono q x1.gg) nd
  | true =>
    obtain ⟨ds, rfl⟩ : ∃ ds, D = .tuple ds := by
      cases D <;> first
        | exact ⟨_, rfl⟩
        | cases e
    obtain ⟨a, xs, rfl, hA, hl, al⟩ := hv.tupled
    have hH := x1.ag _ _ hA
    have ll := al.len
    refine i_isiTup true hv1 rfl ?_
    change (match (if 1 ≤ ds.length ∧ ds.length ≤ 400 then (badRAt ds.length ds).map fun n : Nat => (n : Int) else some (-1)) with
      | some n => Rz E H C_BadReader "number" (.int n)
      | none => ∀ A' H' t ds', PyData.tuple ds = .tuple ds' → Same A0 A' → Same A' H' → But p H H' → (∀ b, A0 b = none → A' b ≠ none → H b = none) → A' p = none → H' p = some (.ins C_Reader dx (OF t)) → At A' (.ref t) (.tuple ds') → Q .non H') at q
    walk_at "go"
    refine i_len_tup (.inl (.inl hH)) ?_
    walk_at "go"
    have bad : ¬ (1 ≤ ds.length ∧ ds.length ≤ 400) → Rz E H C_BadReader "number" (.int (-1)) := fun h => by
      rw [if_neg h] at q; exact q
    refine i_dec (fun e1 => ?_) (fun e1 => ?_)
    rotate_left
    · walk_at "go"
      intro dd nd
      exact Rz.at (Rz.mono (bad (by omega)) x1.gg) nd
    walk_at "go"
    refine i_decN (fun e2 => ?_) (fun e2 => ?_)
    · walk_at "go"
      intro dd nd
      exact Rz.at (Rz.mono (bad (by omega)) x1.gg) nd
    rw [if_pos (by omega)] at q
    walk_at "go"
    dsimp only
    refine f_enumT (ta := tCons (tVar 2) tNil) (i1 := 3) (i2 := 4) (a := a) (xs := xs) (fun R k => by walk_at "go"; exact k) (.inl (.inl hH)) (fun i σ H' => ∃ v1 v2, σ = [some (.ref p), some y, some (.ref a), v1, v2] ∧ Same H1 H' ∧ ∀ k < i, ∀ c, ds[k]? = some c → isRS ds.length c = true) ⟨none, none, rfl, Same.refl _, fun k hk => absurd hk (Nat.not_lt_zero _)⟩ (fun i σ' H' _ p => ?_) ?_ ?_
    · obtain ⟨_, _, _, s1, _⟩ := p
      rw [s1 _ _ hH, hH]
    · rintro i x σ H' Tt hi ⟨v1, v2, rfl, s1, hb⟩ nT
      show (_ : TS) _ [some (.ref p), some y, some (.ref a), some (.int (i : Int)), some x] _
      obtain ⟨c, hc, ac⟩ := al.get hi
      have s2 := s1.trans (same_upd (o := .tup [.int (i : Int), x]) nT)
      have cm := List.mem_of_getElem? hc
      have dc := depth_mem cm
      have d1 : PyData.depthAll ds + 1 < 6 := dp'
      walk_at "go"
      refine i_len_tup (.inl (.inl (s2 _ _ hH))) ?_
      rw [ll]
      walk_at "go"
      refine ⟨c, ds.length, (ac.same x1.ag).same s2, rfl, ?_⟩
      cases ew : isRS ds.length c with
      | true =>
        walk_at "go"
        refine ⟨_, _, rfl, s2, fun k hk c' hc' => ?_⟩
        rcases Nat.lt_or_ge k i with h | h
        · exact hb k h c' hc'
        · have : k = i := by omega
          subst this
          rw [hc] at hc'
          cases hc'
          exact ew
      | false =>
        rw [badR_some hc ew hb] at q
        have q : Rz E H C_BadReader "number" (.int (i : Int)) := q
        walk_at "go"
        intro dd nd
        exact Rz.at (q.mono (x1.gg.trans (s2))) nd
    · rintro σ H' ⟨v1, v2, rfl, s1, hb⟩
      rw [badR_none (ds := ds) (fun k hk => hb k (by omega))] at q
      have q : ∀ A' H' t ds', PyData.tuple ds = .tuple ds' → Same A0 A' → Same A' H' → But p H H' → (∀ b, A0 b = none → A' b ≠ none → H b = none) → A' p = none → H' p = some (.ins C_Reader dx (OF t)) → At A' (.ref t) (.tuple ds') → Q .non H' := q
      have s2 := x1.gg.trans s1
      walk_at "go"
      refine i_put (s1 _ _ ob1) T.cl_Reader T.na_Reader_rows (by show 0 < 1000; decide) ?_
      refine q A1 _ a ds rfl x1.aa (fun b o eb => ?_) (fun b o nb eb => ?_) x1.nw np1 upd_same hv
      · rw [upd_ne (ne_of_none eb np1)]; exact s1 _ _ (x1.ag _ _ eb)
      · rw [upd_ne nb]; exact s2 b o eb
end
end K47
namespace K47
open PySem PySem.Spec PyProof.Rows L2 Fg
local macro_rules | `(tactic| walk_at "sq") => `(tactic| first
  | assumption
  | exact .inl (.inl (by assumption))
  | exact .inl (.inl upd_same))
local macro_rules | `(tactic| walk_at "st") => `(tactic| first
  | assumption
  | exact .inl (.inl (by assumption))
  | exact .inl (.inl upd_same))
local macro_rules | `(tactic| walk_at "o") => `(tactic| first
  | omega
  | assumption
  | (simp only [List.length_append, List.length_take, List.length_drop, List.length_cons, List.length_nil, List.length_singleton, List.length_map, List.length_range, Int.toNat_natCast] ; omega))
local macro_rules | `(tactic| walk_at "s") => `(tactic| first
  | (with_reducible refine i_seq ?_)
  | (with_reducible refine i_asg ?_)
  | ((with_reducible refine' i_var ?h1 ?_); (case h1 => rfl))
  | (with_reducible refine i_c ?_)
  | ((with_reducible refine' i_gname' ?h1 ?_); (case h1 => (simp only [List.set_cons_zero, List.set_cons_succ]; rfl)))
  | (with_reducible refine i_op ?_)
  | (with_reducible refine i_ifS ?_)
  | (with_reducible refine i_for ?_)
  | (with_reducible refine i_test ?_)
  | (with_reducible refine i_B ?_)
  | (with_reducible refine i_exbl ?_)
  | (with_reducible refine i_exint ?_)
  | (with_reducible refine i_cb ?_)
  | (with_reducible refine i_nil ?_)
  | (with_reducible refine i_cons ?_)
  | (with_reducible refine i_ret ?_)
  | (with_reducible refine i_sl ?_)
  | (with_reducible refine i_nopart ?_)
  | (with_reducible refine i_part ?_)
  | (with_reducible refine i_add_int ?_)
  | (with_reducible refine i_sub ?_)
  | (with_reducible refine i_lt ?_)
  | ((with_reducible refine' i_mod ?h1 ?_); (case h1 => walk_at "o"))
  | ((with_reducible refine' i_fdiv ?h1 ?_); (case h1 => (refine cdiv_small ?_ ?_ <;> walk_at "o")))
  | ((with_reducible refine' i_sl_to ?h1 ?h2 ?_); (case h1 => walk_at "o"); (case h2 => walk_at "o"))
  | ((with_reducible refine' i_sl_from ?h1 ?h2 ?_); (case h1 => walk_at "o"); (case h2 => walk_at "o"))
  | ((with_reducible refine' i_add_str ?h1 ?_); (case h1 => walk_at "o"))
  | ((with_reducible refine' i_mul_int ?h1 ?_); (case h1 => first | (refine mul_small ?_ ?_ <;> walk_at "o") | (refine mul_smallR ?_ ?_ <;> walk_at "o")))
  | (with_reducible refine i_le ?_)
  | (with_reducible refine i_gt ?_)
  | (with_reducible refine i_ge ?_)
  | (with_reducible refine i_eq_int ?_)
  | (with_reducible refine i_eq_str ?_)
  | (with_reducible refine i_ne_int ?_)
  | (with_reducible refine i_ne_str ?_)
  | (with_reducible refine i_eq_bl ?_)
  | (with_reducible refine i_ne_bl ?_)
  | (with_reducible refine i_in_sg ?_)
  | (with_reducible refine i_notIn_sg ?_)
  | (with_reducible refine i_call ?_)
  | (with_reducible refine i_callS ?_)
  | (with_reducible refine i_sp1 ?_)
  | (with_reducible refine i_sp2 ?_)
  | (with_reducible refine i_sp3 ?_)
  | (with_reducible refine i_sp4 ?_)
  | (with_reducible refine i_sp1' ?_)
  | (with_reducible refine i_sp2' ?_)
  | (with_reducible refine i_sp3' ?_)
  | ((with_reducible refine' i_ix_lst ?h1 ?h2 ?_); (case h1 => walk_at "sq"); (case h2 => first | exact atI_nat rfl | rfl))
  | ((with_reducible refine' i_ix_tup ?h1 ?h2 ?_); (case h1 => walk_at "st"); (case h2 => first | exact atI_nat rfl | rfl))
  | (with_reducible refine i_gsub ?_)
  | (with_reducible refine i_par ?_)
  | (with_reducible refine i_lstRg1 ?_)
  | (with_reducible refine i_app ?_)
  | (with_reducible refine i_par2 ?_)
  | ((with_reducible refine' i_aug ?h1 ?_); (case h1 => rfl))
  | (with_reducible refine i_ipI ?_)
  | ((with_reducible refine' i_gtup2 ?h1 ?_); (case h1 => walk_at "st"))
  | (with_reducible refine i_int_bl ?_)
  | (with_reducible refine i_raise ?_)
  | (with_reducible refine i_mkE ?_)
  | (with_reducible refine i_ex1 ?_)
  | (with_reducible refine i_and ?_)
  | (with_reducible refine i_or ?_)
  | (with_reducible refine i_not ?_)
  | (with_reducible refine i_tt ?_)
  | (with_reducible refine i_ff ?_)
  | (with_reducible refine i_nott ?_)
  | (with_reducible refine i_notf ?_)
  | (with_reducible refine i_andV ?_)
  | (with_reducible refine i_orV ?_)
  | (with_reducible refine i_notV ?_)
  | (with_reducible refine i_ifE ?_)
  | (with_reducible refine i_tup ?_)
  | (with_reducible refine i_lst ?_)
  | (with_reducible refine i_un ?_)
  | (with_reducible refine i_neg ?_)
  | (with_reducible refine i_chain ?_)
  | (with_reducible refine i_next ?_)
  | (with_reducible refine i_retN ?_)
  | (with_reducible refine i_drop ?_)
  | (with_reducible refine i_int_int ?_)
  | (with_reducible refine i_abs ?_)
  | (with_reducible refine i_m1c ?_)
  | (with_reducible refine i_is_non ?_)
  | (with_reducible refine i_is_int ?_)
  | (with_reducible refine i_is_bl ?_)
  | (with_reducible refine i_isn_bl ?_)
  | (with_reducible refine i_is_str ?_)
  | (with_reducible refine i_is_ref ?_)
  | (with_reducible refine i_isn_non ?_)
  | (with_reducible refine i_isn_int ?_)
  | (with_reducible refine i_isn_str ?_)
  | (with_reducible refine i_isn_ref ?_)
  | (with_reducible refine i_len_str ?h1 ?_; (case h1 => walk_at "o"))
  | (with_reducible refine i_callD ?_)
  | (with_reducible refine i_spD2 ?_)
  | (with_reducible refine i_spM1 ?_)
  | (with_reducible refine i_spM2 ?_)
  | (with_reducible refine i_spM3 ?_)
  | (with_reducible refine i_spM4 ?_)
  | (with_reducible refine i_spM3d ?_)
  | (with_reducible refine i_tfld ?_)
  | (with_reducible refine i_sfld ?_)
  | (with_reducible refine i_meth ?_)
  | (with_reducible refine i_make ?_)
  | (with_reducible refine i_spl ?_)
  | (with_reducible refine i_mkE2 ?_)
  | (with_reducible refine i_ex2 ?_)
  | (with_reducible refine i_dget ?_)
  | (with_reducible refine i_tru ?_)
  | (with_reducible refine i_dput ?_)
  | (with_reducible refine i_dnotin ?_)
  | (with_reducible refine i_din ?_)
  | (with_reducible refine i_rev ?_)
  | (with_reducible refine i_isi_int_int ?_) | (with_reducible refine i_isi_int_bool ?_) | (with_reducible refine i_isi_int_str ?_) | (with_reducible refine i_isi_int_tuple ?_) | (with_reducible refine i_isi_int_list ?_)
  | (with_reducible refine i_isi_bl_int ?_) | (with_reducible refine i_isi_bl_bool ?_) | (with_reducible refine i_isi_bl_str ?_) | (with_reducible refine i_isi_bl_tuple ?_) | (with_reducible refine i_isi_bl_list ?_)
  | (with_reducible refine i_isi_str_int ?_) | (with_reducible refine i_isi_str_bool ?_) | (with_reducible refine i_isi_str_str ?_) | (with_reducible refine i_isi_str_tuple ?_) | (with_reducible refine i_isi_str_list ?_)
  | (with_reducible refine i_isi_non_int ?_) | (with_reducible refine i_isi_non_bool ?_) | (with_reducible refine i_isi_non_str ?_) | (with_reducible refine i_isi_non_tuple ?_) | (with_reducible refine i_isi_non_list ?_))
local macro_rules | `(tactic| walk_at "go") => `(tactic| (repeat' (walk_at "s")))
local macro_rules | `(tactic| walk_at "n") => `(tactic| simp only [wipe, List.map_cons, List.map_nil, List.set_cons_zero, List.set_cons_succ])
theorem ints_of {H : Hp} : ∀ {ns : List Nat} {ys : List V}, AtAll H ys (ns.map fun n : Nat => PyData.int (n : Int)) → ys = ns.map fun n : Nat => V.int (n : Int)
  | [], _, h => by cases h; rfl
  | n :: r, _, h => by
    rw [List.map_cons] at h
    cases h with
    | cons a b => rw [a.intd, ints_of b]; rfl
theorem rowD_at {H : Hp} {v : V} {r : List Nat × List Nat} (h : At H v (rowD r)) : ∃ a b, v = .ref a ∧ H a = some (.tup [S r.1, .ref b]) ∧ H b = some (.tup (r.2.map fun n : Nat => V.int (n : Int))) := by
  obtain ⟨a, ys, rfl, hA, _, al⟩ := At.tupled (ds := [dS r.1, .tuple (r.2.map fun n : Nat => .int (n : Int))]) h
  cases al with
  | cons h1 h2 =>
  cases h2 with
  | cons h2 h3 =>
  cases h3
  obtain ⟨b, zs, rfl, hB, _, al2⟩ := h2.tupled
  rw [ints_of al2] at hB
  obtain ⟨l, rfl, e, _⟩ := h1.strl
  have : r.1 = l := by
    have := congrArg (fun z : Str => z.cps.toList) e
    simpa using this
  rw [this]
  exact ⟨a, b, rfl, hA, hB⟩
/-- a reader with the rows R stands at p -/
def RA (C : Addr) (H : Hp) (p : Addr) (R : Rws) : Prop := ∃ dx t, H p = some (.ins C dx (OF t)) ∧ At H (.ref t) (.tuple (rowsD R))
theorem RA.same {C p : Addr} {H H' : Hp} {R : Rws} (h : RA C H p R) (s : Same H H') : RA C H' p R := by
  obtain ⟨dx, t, e, a⟩ := h
  exact ⟨dx, t, s _ _ e, a.same s⟩
theorem RA.get {C p : Addr} {H : Hp} {R : Rws} (h : RA C H p R) : ∃ dx t xs, H p = some (.ins C dx (OF t)) ∧ H t = some (.tup xs) ∧ xs.length = R.length ∧ ∀ i < R.length, ∃ a b, xs[i]? = some (.ref a) ∧ H a = some (.tup [S (wd R i), .ref b]) ∧ H b = some (.tup ((nxs R i).map fun n : Nat => V.int (n : Int))) := by
  obtain ⟨dx, t, e, h⟩ := h
  obtain ⟨t', xs, et, hT, _, al⟩ := h.tupled
  cases et
  refine ⟨dx, t, xs, e, hT, by rw [al.len]; unfold rowsD; rw [List.length_map], fun i hi => ?_⟩
  have m := (getD_mem hi).1
  obtain ⟨v, hv, av⟩ := al.at (i := i) (d := rowD (wd R i, nxs R i)) (by unfold rowsD; rw [List.getElem?_map, m]; rfl)
  obtain ⟨a, b, rfl, h1, h2⟩ := rowD_at av
  exact ⟨a, b, hv, h1, h2⟩
section
variable {P : Program} {w : World} {K : PySem.W.Frag} {mg : Str → Option Value} {base : Heap} {C_GlimError C_BadRow C_BadReader C_Reader : Addr}
theorem fl_rows (T : Txt K mg C_GlimError C_BadRow C_BadReader C_Reader) {H : Hp} {p t : Addr} {dx : Addr} {R : V → Prop} (hp : H p = some (.ins C_Reader dx (OF t))) (k : R (.ref t)) : ∃ a' C dx fs v, V.ref p = .ref a' ∧ H a' = some (.ins C dx fs) ∧ Cls K C ∧ NoAttr K C "rows" ∧ fs.lookup ("rows" : Str) = some v ∧ R v :=
  i_fld hp T.cl_Reader T.na_Reader_rows (OF_at t) k
def p_words_at (C : Addr) : P3 := fun x y z H Q _ => ∃ p1 p2 b R1 R2, ∃ i j : Nat, x = .ref p1 ∧ y = .ref p2 ∧ z = .ref b ∧ RA C H p1 R1 ∧ RA C H p2 R2 ∧ H b = some (.tup [.int (i : Int), .int (j : Int)]) ∧ i < R1.length ∧ j < R2.length ∧ ∀ c, H c = none → Q (.ref c) (upd H c (.tup [S (wd R1 i), S (wd R2 j)]))
theorem ok_words_at (T : Txt K mg C_GlimError C_BadRow C_BadReader C_Reader) : OK P w K mg base CX0 1 "words_at" ["first", "second", "pair"] (sp3  (p_words_at C_Reader)) := by
  refine OK.mk (k := 0) T.d_words_at sc_words_at len3 fun f cdv A outer s H vs Q E hr h => ?_
  obtain ⟨x, y, z, rfl, h⟩ := h
  refine ⟨_, (pss_one (ps_ret (pe_tup (pa_cons (pe_ix (ixK K) (pe_ix (ixK K) (peFld K (pv 0)) (pe_ix (ixK K) (pv 2) pe_int (fun _ _ => rfl)) (fun _ _ => rfl)) pe_int (fun _ _ => rfl)) (pa_cons (pe_ix (ixK K) (pe_ix (ixK K) (peFld K (pv 1)) (pe_ix (ixK K) (pv 2) pe_int (fun _ _ => rfl)) (fun _ _ => rfl)) pe_int (fun _ _ => rfl)) pa_nil))))), ?_⟩
  show (_ : TS) { nx := fun _ H' => Q .non H', rt := Q } [some x, some y, some z] H
  obtain ⟨p1, p2, b, R1, R2, i, j, rfl, rfl, rfl, h1, h2, hb, hi, hj, q⟩ := h
  obtain ⟨dx1, t1, xs1, e1, ht1, _, g1⟩ := h1.get
  obtain ⟨dx2, t2, xs2, e2, ht2, _, g2⟩ := h2.get
  obtain ⟨a1, b1, m1, hA1, hB1⟩ := g1 i hi
  obtain ⟨a2, b2, m2, hA2, hB2⟩ := g2 j hj
  walk_at "go"
  refine fl_rows T e1 ?_
  walk_at "go"
  refine i_ix_tup (.inl (.inl ht1)) (atI_nat m1) ?_
  walk_at "go"
  refine fl_rows T e2 ?_
  walk_at "go"
  refine i_ix_tup (.inl (.inl ht2)) (atI_nat m2) ?_
  walk_at "go"
  exact i_new (by show 2 ≤ 100000; omega) q
def p_pair_behind (C : Addr) : P4 := fun x y z u H Q _ => ∃ p1 p2 b R1 R2, ∃ i j k : Nat, x = .ref p1 ∧ y = .ref p2 ∧ z = .ref b ∧ u = .int (k : Int) ∧ RA C H p1 R1 ∧ RA C H p2 R2 ∧ Good R1 ∧ Good R2 ∧ H b = some (.tup [.int (i : Int), .int (j : Int)]) ∧ i < R1.length ∧ j < R2.length ∧ k < 4 ∧
  ∀ c, H c = none → Q (.ref c) (upd H c (.tup [.int (nx R1 i k : Int), .int (nx R2 j k : Int)]))
theorem ok_pair_behind (T : Txt K mg C_GlimError C_BadRow C_BadReader C_Reader) : OK P w K mg base CX0 1 "pair_behind" ["first", "second", "pair", "place"] (sp4  (p_pair_behind C_Reader)) := by
  refine OK.mk (k := 0) T.d_pair_behind sc_pair_behind len4 fun f cdv A outer s H vs Q E hr h => ?_
  obtain ⟨x, y, z, u, rfl, h⟩ := h
  refine ⟨_, (pss_one (ps_ret (pe_tup (pa_cons (pe_ix (ixK K) (pe_ix (ixK K) (pe_ix (ixK K) (peFld K (pv 0)) (pe_ix (ixK K) (pv 2) pe_int (fun _ _ => rfl)) (fun _ _ => rfl)) pe_int (fun _ _ => rfl)) (pv 3) (fun _ _ => rfl)) (pa_cons (pe_ix (ixK K) (pe_ix (ixK K) (pe_ix (ixK K) (peFld K (pv 1)) (pe_ix (ixK K) (pv 2) pe_int (fun _ _ => rfl)) (fun _ _ => rfl)) pe_int (fun _ _ => rfl)) (pv 3) (fun _ _ => rfl)) pa_nil))))), ?_⟩
  show (_ : TS) { nx := fun _ H' => Q .non H', rt := Q } [some x, some y, some z, some u] H
  obtain ⟨p1, p2, b, R1, R2, i, j, k, rfl, rfl, rfl, rfl, h1, h2, gd1, gd2, hb, hi, hj, hk, q⟩ := h
  obtain ⟨dx1, t1, xs1, e1, ht1, _, g1⟩ := h1.get
  obtain ⟨dx2, t2, xs2, e2, ht2, _, g2⟩ := h2.get
  obtain ⟨a1, b1, m1, hA1, hB1⟩ := g1 i hi
  obtain ⟨a2, b2, m2, hA2, hB2⟩ := g2 j hj
  have n1 := (gd1.nx hi hk).1
  have n2 := (gd2.nx hj hk).1
  walk_at "go"
  refine fl_rows T e1 ?_
  walk_at "go"
  refine i_ix_tup (.inl (.inl ht1)) (atI_nat m1) ?_
  walk_at "go"
  refine i_ix_tup (v := .int (nx R1 i k : Int)) (.inl (.inl hB1)) (atI_nat (by rw [List.getElem?_map, n1]; rfl)) ?_
  walk_at "go"
  refine fl_rows T e2 ?_
  walk_at "go"
  refine i_ix_tup (.inl (.inl ht2)) (atI_nat m2) ?_
  walk_at "go"
  refine i_ix_tup (v := .int (nx R2 j k : Int)) (.inl (.inl hB2)) (atI_nat (by rw [List.getElem?_map, n2]; rfl)) ?_
  walk_at "go"
  exact i_new (by show 2 ≤ 100000; omega) q
/-- d is a pair of states, its lists being tuples already -/
def isP (n1 n2 : Nat) : PyData → Bool
  | .tuple [x, y] => isIn x 0 ((n1 : Int) - 1) && isIn y 0 ((n2 : Int) - 1)
  | _ => false
theorem isP_tup (n1 n2 : Nat) {d : PyData} (h : tupO d = true) : isP n1 n2 d = (prD n1 n2 d).isSome := by
  cases d with
  | list ds => cases h
  | tuple ds =>
    match ds with
    | [] => rfl
    | [x] => cases x <;> rfl
    | [x, y] =>
      cases x with
      | int i =>
        cases y with
        | int j =>
          show (isIn (.int i) 0 _ && isIn (.int j) 0 _) = (if 0 ≤ i ∧ i < n1 ∧ 0 ≤ j ∧ j < n2 then some (i.toNat, j.toNat) else none).isSome
          rw [isIn_int, isIn_int]
          by_cases c : 0 ≤ i ∧ i < n1 ∧ 0 ≤ j ∧ j < n2
          · rw [if_pos c, decide_eq_true c.1, decide_eq_true (show i ≤ (n1 : Int) - 1 by omega), decide_eq_true c.2.2.1, decide_eq_true (show j ≤ (n2 : Int) - 1 by omega)]; rfl
          · rw [if_neg c]
            show _ = false
            rw [Bool.eq_false_iff]
            intro z
            simp only [Bool.and_eq_true, decide_eq_true_eq] at z
            omega
        | _ =>
          show (isIn (.int i) 0 _ && false) = false
          exact Bool.and_false _
      | _ => cases y <;> rfl
    | x :: y :: z :: r => cases x <;> first
        | rfl
        | (cases y <;> rfl)
  | _ => rfl
def p_is_sp (C : Addr) : P3 := fun x y z H Q _ => ∃ p1 p2 R1 R2 d, x = .ref p1 ∧ y = .ref p2 ∧ RA C H p1 R1 ∧ RA C H p2 R2 ∧ At H z d ∧ Q (.bl (isP R1.length R2.length d)) H
theorem ok_is_state_pair (T : Txt K mg C_GlimError C_BadRow C_BadReader C_Reader) : OK P w K mg base CX0 2 "is_state_pair" ["first", "second", "thing"] (sp3  (p_is_sp C_Reader)) := by
  refine OK.mk (k := 1) T.d_is_state_pair sc_is_state_pair len3 fun f cdv A outer s H vs Q E hr h => ?_
  obtain ⟨x, y, z, rfl, h⟩ := h
  refine ⟨_, (pss_cons (ps_if (pw_or (pt_not (pt_val (pe_callB (cIsi K) (by rfl) T.b_isinstance (by decide +kernel) (pa_cons (pv 2) (pa_cons (pe_bltn (v := .ty "tuple") (by rfl) T.b_tuple (by decide +kernel) rfl) pa_nil))))) (pw_or1 (pt_cmpR (opNe K hr.units) (pe_callB (cLen K) (by rfl) T.b_len (by decide +kernel) (pa_cons (pv 2) pa_nil)) pe_int (nomark _)))).pt (pss_one (ps_ret pe_bl)) pss_nil) (pss_one (ps_ret (pe_and (pe_f (ok_is_integer (K := K) T) (hr.mono (by decide)) pass0 (pa_cons (pe_ix (ixK K) (pv 2) pe_int (fun _ _ => rfl)) (pa_cons pe_int (pa_cons (pe_op op_subP (pe_callB (cLen K) (by rfl) T.b_len (by decide +kernel) (pa_cons (peFld K (pv 0)) pa_nil)) pe_int) pa_nil)))) (pe_one (pe_f (ok_is_integer (K := K) T) (hr.mono (by decide)) pass0 (pa_cons (pe_ix (ixK K) (pv 2) pe_int (fun _ _ => rfl)) (pa_cons pe_int (pa_cons (pe_op op_subP (pe_callB (cLen K) (by rfl) T.b_len (by decide +kernel) (pa_cons (peFld K (pv 1)) pa_nil)) pe_int) pa_nil))))))))), ?_⟩
  show (_ : TS) { nx := fun _ H' => Q .non H', rt := Q } [some x, some y, some z] H
  obtain ⟨p1, p2, R1, R2, d, rfl, rfl, h1, h2, hz, q⟩ := h
  obtain ⟨dx1, t1, xs1, e1, ht1, l1, _⟩ := h1.get
  obtain ⟨dx2, t2, xs2, e2, ht2, l2, _⟩ := h2.get
  cases d
  case tuple ds =>
    obtain ⟨a, xs, rfl, hH, hl, al⟩ := hz.tupled
    have ll := al.len
    walk_at "go"
    refine i_isiTup true hz rfl ?_
    walk_at "go"
    refine i_len_tup (.inl (.inl hH)) ?_
    walk_at "go"
    rw [ll]
    refine i_decN (fun e => ?_) (fun e => ?_)
    · have : isP R1.length R2.length (.tuple ds) = false := by
        unfold isP
        split
        · next h => cases h; exact absurd rfl e
        · rfl
      rw [this] at q
      walk_at "go"
      exact q
    obtain ⟨w, n, rfl⟩ : ∃ w n, ds = [w, n] := by
      match ds, e with
      | [w, n], _ => exact ⟨w, n, rfl⟩
      | [], e => exact absurd e (by simp)
      | [_], e => exact absurd e (by simp)
      | _ :: _ :: _ :: _, e => exact absurd e (by simp; omega)
    obtain ⟨v0, hv0, a0⟩ := al.at (i := 0) (d := w) rfl
    obtain ⟨v1, hv1, a1⟩ := al.at (i := 1) (d := n) rfl
    have q : Q (.bl (isIn w 0 ((R1.length : Int) - 1) && isIn n 0 ((R2.length : Int) - 1))) H := q
    walk_at "go"
    refine i_ix_tup (v := v0) (.inl (.inl hH)) (atI_int (by decide) hv0) ?_
    walk_at "go"
    refine fl_rows T e1 ?_
    walk_at "go"
    refine i_len_tup (.inl (.inl ht1)) ?_
    walk_at "go"
    rw [l1]
    refine ⟨w, 0, (R1.length : Int) - 1, a0, rfl, rfl, ?_⟩
    refine ⟨_, rfl, ?_⟩
    cases ew : isIn w 0 ((R1.length : Int) - 1) with
    | false =>
      rw [ew, Bool.false_and] at q
      exact q
    | true =>
      rw [ew, Bool.true_and] at q
      walk_at "go"
      refine i_ix_tup (v := v1) (.inl (.inl hH)) (atI_int (by decide) hv1) ?_
      walk_at "go"
      refine fl_rows T e2 ?_
      walk_at "go"
      refine i_len_tup (.inl (.inl ht2)) ?_
      walk_at "go"
      rw [l2]
      exact ⟨n, 0, (R2.length : Int) - 1, a1, rfl, rfl, q⟩
  all_goals
    walk_at "go"
    refine i_isiTup false hz rfl ?_
    walk_at "go"
    exact q
end
end K47
namespace K47
open PySem PySem.Spec PyProof.Rows L2 Fg
local macro_rules | `(tactic| walk_at "sq") => `(tactic| first
  | assumption
  | exact .inl (.inl (by assumption))
  | exact .inl (.inl upd_same))
local macro_rules | `(tactic| walk_at "st") => `(tactic| first
  | assumption
  | exact .inl (.inl (by assumption))
  | exact .inl (.inl upd_same))
local macro_rules | `(tactic| walk_at "o") => `(tactic| first
  | omega
  | assumption
  | (simp only [List.length_append, List.length_take, List.length_drop, List.length_cons, List.length_nil, List.length_singleton, List.length_map, List.length_range, Int.toNat_natCast] ; omega))
local macro_rules | `(tactic| walk_at "s") => `(tactic| first
  | (with_reducible refine i_seq ?_)
  | (with_reducible refine i_asg ?_)
  | ((with_reducible refine' i_var ?h1 ?_); (case h1 => rfl))
  | (with_reducible refine i_c ?_)
  | ((with_reducible refine' i_gname' ?h1 ?_); (case h1 => (simp only [List.set_cons_zero, List.set_cons_succ]; rfl)))
  | (with_reducible refine i_op ?_)
  | (with_reducible refine i_ifS ?_)
  | (with_reducible refine i_for ?_)
  | (with_reducible refine i_test ?_)
  | (with_reducible refine i_B ?_)
  | (with_reducible refine i_exbl ?_)
  | (with_reducible refine i_exint ?_)
  | (with_reducible refine i_cb ?_)
  | (with_reducible refine i_nil ?_)
  | (with_reducible refine i_cons ?_)
  | (with_reducible refine i_ret ?_)
  | (with_reducible refine i_sl ?_)
  | (with_reducible refine i_nopart ?_)
  | (with_reducible refine i_part ?_)
  | (with_reducible refine i_add_int ?_)
  | (with_reducible refine i_sub ?_)
  | (with_reducible refine i_lt ?_)
  | ((with_reducible refine' i_mod ?h1 ?_); (case h1 => walk_at "o"))
  | ((with_reducible refine' i_fdiv ?h1 ?_); (case h1 => (refine cdiv_small ?_ ?_ <;> walk_at "o")))
  | ((with_reducible refine' i_sl_to ?h1 ?h2 ?_); (case h1 => walk_at "o"); (case h2 => walk_at "o"))
  | ((with_reducible refine' i_sl_from ?h1 ?h2 ?_); (case h1 => walk_at "o"); (case h2 => walk_at "o"))
  | ((with_reducible refine' i_add_str ?h1 ?_); (case h1 => walk_at "o"))
  | ((with_reducible refine' i_mul_int ?h1 ?_); (case h1 => first | (refine mul_small ?_ ?_ <;> walk_at "o") | (refine mul_smallR ?_ ?_ <;> walk_at "o")))
  | (with_reducible refine i_le ?_)
  | (with_reducible refine i_gt ?_)
  | (with_reducible refine i_ge ?_)
  | (with_reducible refine i_eq_int ?_)
  | (with_reducible refine i_eq_str ?_)
  | (with_reducible refine i_ne_int ?_)
  | (with_reducible refine i_ne_str ?_)
  | (with_reducible refine i_eq_bl ?_)
  | (with_reducible refine i_ne_bl ?_)
  | (with_reducible refine i_in_sg ?_)
  | (with_reducible refine i_notIn_sg ?_)
  | (with_reducible refine i_call ?_)
  | (with_reducible refine i_callS ?_)
  | (with_reducible refine i_sp1 ?_)
  | (with_reducible refine i_sp2 ?_)
  | (with_reducible refine i_sp3 ?_)
  | (with_reducible refine i_sp4 ?_)
  | (with_reducible refine i_sp1' ?_)
  | (with_reducible refine i_sp2' ?_)
  | (with_reducible refine i_sp3' ?_)
  | ((with_reducible refine' i_ix_lst ?h1 ?h2 ?_); (case h1 => walk_at "sq"); (case h2 => first | exact atI_nat rfl | rfl))
  | ((with_reducible refine' i_ix_tup ?h1 ?h2 ?_); (case h1 => walk_at "st"); (case h2 => first | exact atI_nat rfl | rfl))
  | (with_reducible refine i_gsub ?_)
  | (with_reducible refine i_par ?_)
  | (with_reducible refine i_lstRg1 ?_)
  | (with_reducible refine i_app ?_)
  | (with_reducible refine i_par2 ?_)
  | ((with_reducible refine' i_aug ?h1 ?_); (case h1 => rfl))
  | (with_reducible refine i_ipI ?_)
  | ((with_reducible refine' i_gtup2 ?h1 ?_); (case h1 => walk_at "st"))
  | (with_reducible refine i_int_bl ?_)
  | (with_reducible refine i_raise ?_)
  | (with_reducible refine i_mkE ?_)
  | (with_reducible refine i_ex1 ?_)
  | (with_reducible refine i_and ?_)
  | (with_reducible refine i_or ?_)
  | (with_reducible refine i_not ?_)
  | (with_reducible refine i_tt ?_)
  | (with_reducible refine i_ff ?_)
  | (with_reducible refine i_nott ?_)
  | (with_reducible refine i_notf ?_)
  | (with_reducible refine i_andV ?_)
  | (with_reducible refine i_orV ?_)
  | (with_reducible refine i_notV ?_)
  | (with_reducible refine i_ifE ?_)
  | (with_reducible refine i_tup ?_)
  | (with_reducible refine i_lst ?_)
  | (with_reducible refine i_un ?_)
  | (with_reducible refine i_neg ?_)
  | (with_reducible refine i_chain ?_)
  | (with_reducible refine i_next ?_)
  | (with_reducible refine i_retN ?_)
  | (with_reducible refine i_drop ?_)
  | (with_reducible refine i_int_int ?_)
  | (with_reducible refine i_abs ?_)
  | (with_reducible refine i_m1c ?_)
  | (with_reducible refine i_is_non ?_)
  | (with_reducible refine i_is_int ?_)
  | (with_reducible refine i_is_bl ?_)
  | (with_reducible refine i_isn_bl ?_)
  | (with_reducible refine i_is_str ?_)
  | (with_reducible refine i_is_ref ?_)
  | (with_reducible refine i_isn_non ?_)
  | (with_reducible refine i_isn_int ?_)
  | (with_reducible refine i_isn_str ?_)
  | (with_reducible refine i_isn_ref ?_)
  | (with_reducible refine i_len_str ?h1 ?_; (case h1 => walk_at "o"))
  | (with_reducible refine i_callD ?_)
  | (with_reducible refine i_spD2 ?_)
  | (with_reducible refine i_spM1 ?_)
  | (with_reducible refine i_spM2 ?_)
  | (with_reducible refine i_spM3 ?_)
  | (with_reducible refine i_spM4 ?_)
  | (with_reducible refine i_spM3d ?_)
  | (with_reducible refine i_tfld ?_)
  | (with_reducible refine i_sfld ?_)
  | (with_reducible refine i_meth ?_)
  | (with_reducible refine i_make ?_)
  | (with_reducible refine i_spl ?_)
  | (with_reducible refine i_mkE2 ?_)
  | (with_reducible refine i_ex2 ?_)
  | (with_reducible refine i_dget ?_)
  | (with_reducible refine i_tru ?_)
  | (with_reducible refine i_dput ?_)
  | (with_reducible refine i_dnotin ?_)
  | (with_reducible refine i_din ?_)
  | (with_reducible refine i_rev ?_)
  | (with_reducible refine i_isi_int_int ?_) | (with_reducible refine i_isi_int_bool ?_) | (with_reducible refine i_isi_int_str ?_) | (with_reducible refine i_isi_int_tuple ?_) | (with_reducible refine i_isi_int_list ?_)
  | (with_reducible refine i_isi_bl_int ?_) | (with_reducible refine i_isi_bl_bool ?_) | (with_reducible refine i_isi_bl_str ?_) | (with_reducible refine i_isi_bl_tuple ?_) | (with_reducible refine i_isi_bl_list ?_)
  | (with_reducible refine i_isi_str_int ?_) | (with_reducible refine i_isi_str_bool ?_) | (with_reducible refine i_isi_str_str ?_) | (with_reducible refine i_isi_str_tuple ?_) | (with_reducible refine i_isi_str_list ?_)
  | (with_reducible refine i_isi_non_int ?_) | (with_reducible refine i_isi_non_bool ?_) | (with_reducible refine i_isi_non_str ?_) | (with_reducible refine i_isi_non_tuple ?_) | (with_reducible refine i_isi_non_list ?_))
local macro_rules | `(tactic| walk_at "go") => `(tactic| (repeat' (walk_at "s")))
local macro_rules | `(tactic| walk_at "n") => `(tactic| simp only [wipe, List.map_cons, List.map_nil, List.set_cons_zero, List.set_cons_succ])
theorem eqv_str2 (l m : List Nat) : PyData.eqv (dS l) (dS m) = decide (l = m) := by
  have e : PyData.eqv (dS l) (dS m) = ((⟨l.toArray⟩ : Str) == ⟨m.toArray⟩) := by simp only [PyData.eqv]
  rw [e, Bool.eq_iff_iff, beq_iff_eq, decide_eq_true_eq]
  constructor
  · intro h
    have := congrArg (fun z : Str => z.cps.toList) h
    simpa using this
  · rintro rfl; rfl
theorem eqv_two (a b c d : PyData) : PyData.eqv (.tuple [a, b]) (.tuple [c, d]) = (PyData.eqv a c && PyData.eqv b d) := by
  have e : ∀ xs ys : List PyData, (PyData.tuple xs).eqv (.tuple ys) = PyData.eqvAll xs ys := fun xs ys => by simp only [PyData.eqv]
  have e2 : ∀ (x y : PyData) (xs ys : List PyData), PyData.eqvAll (x :: xs) (y :: ys) = (x.eqv y && PyData.eqvAll xs ys) := fun x y xs ys => by simp only [PyData.eqvAll]
  have e3 : PyData.eqvAll [] [] = true := by simp only [PyData.eqvAll]
  rw [e, e2, e2, e3, Bool.and_true]
theorem mk_small {l : List Nat} (h : isMkL l = true) : ∀ c ∈ l, c < 0x110000 := by
  unfold isMkL at h
  rw [Bool.and_eq_true, List.all_eq_true] at h
  intro c hc
  have hm : c ∈ MK := of_decide_eq_true (h.2 c hc)
  have : ∀ c ∈ MK, c < 0x110000 := by decide
  exact this c hm
theorem mk_shaped {l m : List Nat} (h : isMkL l = true) (h2 : isMkL m = true) : SeqAt.shaped (.tuple [dS l, dS m]) = true := by
  have e1 := strOk_small (mk_small h)
  have e2 := strOk_small (mk_small h2)
  have : (PyData.tuple [dS l, dS m]).canLay0 = true := by
    simp only [PyData.canLay0, PyData.canLayAll0, e1, e2, Bool.and_self]
  unfold SeqAt.shaped
  rw [this]
  rfl
theorem mk_nil : isMkL [] = true := rfl
theorem Good.mark {R : Rws} (g : Good R) {i : Nat} (h : i < R.length) : isMkL (wd R i) = true := g.word _ (getD_mem h).2
/-- (w1, w2) != ('', '') -/
theorem i_ne_words {K : PySem.W.Frag} {H : Hp} {Q : VK} {a b : Addr} {l m : List Nat} (h : isMkL l = true) (h2 : isMkL m = true) (ha : H a = some (.tup [S l, S m])) (hb : H b = some (.tup [S [], S []])) (q : Q (.bl (!(decide (l = []) && decide (m = [])))) H) : neP K (.ref a) (.ref b) H Q := by
  have d : ∀ {c : Addr} {l m : List Nat}, H c = some (.tup [S l, S m]) → Dp K H (.ref c) (.tuple [dS l, dS m]) := fun e => .tup (.inl (.inl e)) (.cons (.str _) (.cons (.str _) .nil))
  exact i_ne_data (d ha) (d hb) (mk_shaped h h2) (mk_shaped mk_nil mk_nil) (by rw [eqv_two, eqv_str2, eqv_str2]) q
section
variable {P : Program} {w : World} {K : PySem.W.Frag} {mg : Str → Option Value} {base : Heap} {C_GlimError C_BadRow C_BadReader C_Reader : Addr}
def p_is_rr (C : Addr) : P4 := fun x y z u H Q _ => ∃ p1 p2 b t R1 R2, ∃ (i j n : Nat) (l : List (Nat × Nat)), x = .ref p1 ∧ y = .ref p2 ∧ z = .ref b ∧ u = .ref t ∧ RA C H p1 R1 ∧ RA C H p2 R2 ∧ Good R1 ∧ Good R2 ∧ H b = some (.tup [.int (i : Int), .int (j : Int)]) ∧ i < R1.length ∧ j < R2.length ∧ KD n H t (thK l) ∧
  ∀ H', Same H H' → Q (.bl (closed R1 R2 l (i, j))) H'
theorem ok_is_right_row (T : Txt K mg C_GlimError C_BadRow C_BadReader C_Reader) : OK P w K mg base CX0 2 "is_right_row" ["first", "second", "pair", "there"] (sp4  (p_is_rr C_Reader)) := by
  refine OK.mk (k := 1) T.d_is_right_row sc_is_right_row len4 fun f cdv A outer s H vs Q E hr h => ?_
  obtain ⟨x, y, z, u, rfl, h⟩ := h
  refine ⟨_, (pss_cons (ps_if (pt_cmpR (opNe K hr.units) (pe_f (ok_words_at (K := K) T) (hr.mono (by decide)) pass0 (pa_cons (pv 0) (pa_cons (pv 1) (pa_cons (pv 2) pa_nil)))) (pe_tup (pa_cons (pe_S []) (pa_cons (pe_S []) pa_nil))) (nomark _)) (pss_one (ps_ret pe_bl)) pss_nil) (pss_cons (ps_for PassesOwn.never rfl (pi_range1 rfl T.b_range (pa_cons (pe_callB (cLen K) (by rfl) T.b_len (by decide +kernel) (pa_cons (pe_gS [46, 103, 114, 119] T.g_SIGNS) pa_nil)) pa_nil)) (pg_name (i := 4) sc_is_right_row.nd rfl (Or.inl rfl)) (pss_cons (ps_set (i := 5) sc_is_right_row.nd rfl (Or.inl rfl) (pe_f (ok_pair_behind (K := K) T) (hr.mono (by decide)) pass0 (pa_cons (pv 0) (pa_cons (pv 1) (pa_cons (pv 2) (pa_cons (pv 4) pa_nil)))))) (pss_cons (ps_set (i := 6) sc_is_right_row.nd rfl (Or.inl rfl) (pe_f (ok_words_at (K := K) T) (hr.mono (by decide)) pass0 (pa_cons (pv 0) (pa_cons (pv 1) (pa_cons (pv 5) pa_nil))))) (pss_one (ps_if (pw_or (pt_cmpR (opNe K hr.units) (pe_ix (ixK K) (pv 6) pe_int (fun _ _ => rfl)) (pe_ix (ixK K) (pv 6) pe_int (fun _ _ => rfl)) (nomark _)) (pw_or1 (pw_and (pt_cmpR (opEq K hr.units) (pe_ix (ixK K) (pv 6) pe_int (fun _ _ => rfl)) (pe_S []) (nomark _)) (pw_and1 (pt_cmp (pc_dnotin (hu_of hr) (pv 5) (pv 3))))).pt)).pt (pss_one (ps_ret pe_bl)) pss_nil))))) (pss_one (ps_ret pe_bl)))), ?_⟩
  show (_ : TS) { nx := fun _ H' => Q .non H', rt := Q } [some x, some y, some z, some u, none, none, none] H
  obtain ⟨p1, p2, b, t, R1, R2, i, j, n, l, rfl, rfl, rfl, rfl, h1, h2, g1, g2, hb, hi, hj, hd, q⟩ := h
  walk_at "go"
  refine ⟨p1, p2, b, R1, R2, i, j, rfl, rfl, rfl, h1, h2, hb, hi, hj, fun c nc => ?_⟩
  walk_at "go"
  refine i_new (by show 2 ≤ 100000; omega) fun c2 nc2 => ?_
  have cc : c ≠ c2 := ne_of_none upd_same nc2
  walk_at "go"
  refine i_ne_words (g1.mark hi) (g2.mark hj) ((upd_ne cc).trans upd_same) upd_same ?_
  have s0 : Same H (upd (upd H c (.tup [S (wd R1 i), S (wd R2 j)])) c2 (.tup [S [], S []])) := (same_upd nc).trans (same_upd nc2)
  generalize upd (upd H c (.tup [S (wd R1 i), S (wd R2 j)])) c2 (.tup [S [], S []]) = G0 at s0 ⊢
  walk_at "go"
  have q : ∀ H', Same H H' → Q (.bl ((decide (wd R1 i = []) && decide (wd R2 j = [])) && (List.range 4).all fun k => okAt R1 R2 l (i, j) k)) H' := q
  cases e0 : (decide (wd R1 i = []) && decide (wd R2 j = [])) with
  | false =>
    rw [e0, Bool.false_and] at q
    walk_at "go"
    exact q _ s0
  | true =>
  rw [e0, Bool.true_and] at q
  walk_at "go"
  refine f_rng1 4 (fun R k => by walk_at "go"; exact k) (by decide) (fun k σ' G => ∃ v4 v5 v6, σ' = [some (.ref p1), some (.ref p2), some (.ref b), some (.ref t), v4, v5, v6] ∧ Same H G ∧ ∀ m < k, okAt R1 R2 l (i, j) m = true) ⟨none, none, none, rfl, s0, fun m hm => absurd hm (Nat.not_lt_zero _)⟩ ?_ ?_
  · rintro k σ' G hk ⟨v4, v5, v6, rfl, s1, hm⟩
    show (_ : TS) _ [some (.ref p1), some (.ref p2), some (.ref b), some (.ref t), some (.int (k : Int)), v5, v6] G
    have n1 := (g1.nx hi hk).2
    have n2 := (g2.nx hj hk).2
    walk_at "go"
    refine ⟨p1, p2, b, R1, R2, i, j, k, rfl, rfl, rfl, rfl, h1.same s1, h2.same s1, g1, g2, s1 _ _ hb, hi, hj, hk, fun c3 nc3 => ?_⟩
    walk_at "go"
    have s2 := s1.trans (same_upd (o := .tup [.int (nx R1 i k : Int), .int (nx R2 j k : Int)]) nc3)
    refine ⟨p1, p2, c3, R1, R2, nx R1 i k, nx R2 j k, rfl, rfl, rfl, h1.same s2, h2.same s2, upd_same, n1, n2, fun c4 nc4 => ?_⟩
    have s3 := s2.trans (same_upd (o := .tup [S (wd R1 (nx R1 i k)), S (wd R2 (nx R2 j k))]) nc4)
    have c34 : c3 ≠ c4 := ne_of_none upd_same nc4
    have k3 : ∀ o, upd (upd G c3 (.tup [.int (nx R1 i k : Int), .int (nx R2 j k : Int)])) c4 o c3 = some (.tup ((key2 (nx R1 i k, nx R2 j k)).map kV)) := fun o => (upd_ne c34).trans upd_same
    have bad : okAt R1 R2 l (i, j) k = false → ∀ H', Same H H' → Q (.bl false) H' := fun e H' s => by
      have : ((List.range 4).all fun k => okAt R1 R2 l (i, j) k) = false := by
        rw [List.all_eq_false]
        exact ⟨k, List.mem_range.mpr hk, by rw [e]; decide⟩
      rw [this] at q
      exact q H' s
    have good : okAt R1 R2 l (i, j) k = true → ∀ m < k + 1, okAt R1 R2 l (i, j) m = true := fun e m hm' => by
      rcases Nat.lt_or_ge m k with h | h
      · exact hm m h
      · obtain rfl : m = k := by omega
        exact e
    have ok : okAt R1 R2 l (i, j) k = (decide (wd R1 (nx R1 i k) = wd R2 (nx R2 j k)) && (!decide (wd R1 (nx R1 i k) = []) || decide ((nx R1 i k, nx R2 j k) ∈ l))) := rfl
    walk_at "go"
    refine i_decN (fun e1 => ?_) (fun e1 => ?_)
    · rw [decide_eq_false e1, Bool.false_and] at ok
      walk_at "go"
      exact bad ok _ s3
    rw [decide_eq_true e1, Bool.true_and] at ok
    walk_at "go"
    refine i_dec (fun e2 => ?_) (fun e2 => ?_)
    · rw [decide_eq_true e2, Bool.not_true, Bool.false_or] at ok
      walk_at "go"
      refine kd_askT (hd.mono s3) (k3 _) ?_
      rw [thK_at]
      walk_at "go"
      refine i_decN (fun e3 => ?_) (fun e3 => ?_)
      · rw [decide_eq_false e3] at ok
        walk_at "go"
        exact bad ok _ s3
      · rw [decide_eq_true e3] at ok
        walk_at "go"
        exact ⟨_, _, _, rfl, s3, good ok⟩
    · rw [decide_eq_false e2, Bool.not_false, Bool.true_or] at ok
      walk_at "go"
      exact ⟨_, _, _, rfl, s3, good ok⟩
  · rintro σ' G ⟨v4, v5, v6, rfl, s1, hm⟩
    have : ((List.range 4).all fun k => okAt R1 R2 l (i, j) k) = true := List.all_eq_true.mpr fun k hk => hm k (List.mem_range.mp hk)
    rw [this] at q
    walk_at "go"
    exact q _ s1
end
end K47
namespace K47
open PySem PySem.Spec PyProof.Rows L2 Fg
local macro_rules | `(tactic| walk_at "sq") => `(tactic| first
  | assumption
  | exact .inl (.inl (by assumption))
  | exact .inl (.inl upd_same))
local macro_rules | `(tactic| walk_at "st") => `(tactic| first
  | assumption
  | exact .inl (.inl (by assumption))
  | exact .inl (.inl upd_same))
local macro_rules | `(tactic| walk_at "o") => `(tactic| first
  | omega
  | assumption
  | (simp only [List.length_append, List.length_take, List.length_drop, List.length_cons, List.length_nil, List.length_singleton, List.length_map, List.length_range, Int.toNat_natCast] ; omega))
local macro_rules | `(tactic| walk_at "s") => `(tactic| first
  | (with_reducible refine i_seq ?_)
  | (with_reducible refine i_asg ?_)
  | ((with_reducible refine' i_var ?h1 ?_); (case h1 => rfl))
  | (with_reducible refine i_c ?_)
  | ((with_reducible refine' i_gname' ?h1 ?_); (case h1 => (simp only [List.set_cons_zero, List.set_cons_succ]; rfl)))
  | (with_reducible refine i_op ?_)
  | (with_reducible refine i_ifS ?_)
  | (with_reducible refine i_for ?_)
  | (with_reducible refine i_test ?_)
  | (with_reducible refine i_B ?_)
  | (with_reducible refine i_exbl ?_)
  | (with_reducible refine i_exint ?_)
  | (with_reducible refine i_cb ?_)
  | (with_reducible refine i_nil ?_)
  | (with_reducible refine i_cons ?_)
  | (with_reducible refine i_ret ?_)
  | (with_reducible refine i_sl ?_)
  | (with_reducible refine i_nopart ?_)
  | (with_reducible refine i_part ?_)
  | (with_reducible refine i_add_int ?_)
  | (with_reducible refine i_sub ?_)
  | (with_reducible refine i_lt ?_)
  | ((with_reducible refine' i_mod ?h1 ?_); (case h1 => walk_at "o"))
  | ((with_reducible refine' i_fdiv ?h1 ?_); (case h1 => (refine cdiv_small ?_ ?_ <;> walk_at "o")))
  | ((with_reducible refine' i_sl_to ?h1 ?h2 ?_); (case h1 => walk_at "o"); (case h2 => walk_at "o"))
  | ((with_reducible refine' i_sl_from ?h1 ?h2 ?_); (case h1 => walk_at "o"); (case h2 => walk_at "o"))
  | ((with_reducible refine' i_add_str ?h1 ?_); (case h1 => walk_at "o"))
  | ((with_reducible refine' i_mul_int ?h1 ?_); (case h1 => first | (refine mul_small ?_ ?_ <;> walk_at "o") | (refine mul_smallR ?_ ?_ <;> walk_at "o")))
  | (with_reducible refine i_le ?_)
  | (with_reducible refine i_gt ?_)
  | (with_reducible refine i_ge ?_)
  | (with_reducible refine i_eq_int ?_)
  | (with_reducible refine i_eq_str ?_)
  | (with_reducible refine i_ne_int ?_)
  | (with_reducible refine i_ne_str ?_)
  | (with_reducible refine i_eq_bl ?_)
  | (with_reducible refine i_ne_bl ?_)
  | (with_reducible refine i_in_sg ?_)
  | (with_reducible refine i_notIn_sg ?_)
  | (with_reducible refine i_call ?_)
  | (with_reducible refine i_callS ?_)
  | (with_reducible refine i_sp1 ?_)
  | (with_reducible refine i_sp2 ?_)
  | (with_reducible refine i_sp3 ?_)
  | (with_reducible refine i_sp4 ?_)
  | (with_reducible refine i_sp1' ?_)
  | (with_reducible refine i_sp2' ?_)
  | (with_reducible refine i_sp3' ?_)
  | ((with_reducible refine' i_ix_lst ?h1 ?h2 ?_); (case h1 => walk_at "sq"); (case h2 => first | exact atI_nat rfl | rfl))
  | ((with_reducible refine' i_ix_tup ?h1 ?h2 ?_); (case h1 => walk_at "st"); (case h2 => first | exact atI_nat rfl | rfl))
  | (with_reducible refine i_gsub ?_)
  | (with_reducible refine i_par ?_)
  | (with_reducible refine i_lstRg1 ?_)
  | (with_reducible refine i_app ?_)
  | (with_reducible refine i_par2 ?_)
  | ((with_reducible refine' i_aug ?h1 ?_); (case h1 => rfl))
  | (with_reducible refine i_ipI ?_)
  | ((with_reducible refine' i_gtup2 ?h1 ?_); (case h1 => walk_at "st"))
  | (with_reducible refine i_int_bl ?_)
  | (with_reducible refine i_raise ?_)
  | (with_reducible refine i_mkE ?_)
  | (with_reducible refine i_ex1 ?_)
  | (with_reducible refine i_and ?_)
  | (with_reducible refine i_or ?_)
  | (with_reducible refine i_not ?_)
  | (with_reducible refine i_tt ?_)
  | (with_reducible refine i_ff ?_)
  | (with_reducible refine i_nott ?_)
  | (with_reducible refine i_notf ?_)
  | (with_reducible refine i_andV ?_)
  | (with_reducible refine i_orV ?_)
  | (with_reducible refine i_notV ?_)
  | (with_reducible refine i_ifE ?_)
  | (with_reducible refine i_tup ?_)
  | (with_reducible refine i_lst ?_)
  | (with_reducible refine i_un ?_)
  | (with_reducible refine i_neg ?_)
  | (with_reducible refine i_chain ?_)
  | (with_reducible refine i_next ?_)
  | (with_reducible refine i_retN ?_)
  | (with_reducible refine i_drop ?_)
  | (with_reducible refine i_int_int ?_)
  | (with_reducible refine i_abs ?_)
  | (with_reducible refine i_m1c ?_)
  | (with_reducible refine i_is_non ?_)
  | (with_reducible refine i_is_int ?_)
  | (with_reducible refine i_is_bl ?_)
  | (with_reducible refine i_isn_bl ?_)
  | (with_reducible refine i_is_str ?_)
  | (with_reducible refine i_is_ref ?_)
  | (with_reducible refine i_isn_non ?_)
  | (with_reducible refine i_isn_int ?_)
  | (with_reducible refine i_isn_str ?_)
  | (with_reducible refine i_isn_ref ?_)
  | (with_reducible refine i_len_str ?h1 ?_; (case h1 => walk_at "o"))
  | (with_reducible refine i_callD ?_)
  | (with_reducible refine i_spD2 ?_)
  | (with_reducible refine i_spM1 ?_)
  | (with_reducible refine i_spM2 ?_)
  | (with_reducible refine i_spM3 ?_)
  | (with_reducible refine i_spM4 ?_)
  | (with_reducible refine i_spM3d ?_)
  | (with_reducible refine i_tfld ?_)
  | (with_reducible refine i_sfld ?_)
  | (with_reducible refine i_meth ?_)
  | (with_reducible refine i_make ?_)
  | (with_reducible refine i_spl ?_)
  | (with_reducible refine i_mkE2 ?_)
  | (with_reducible refine i_ex2 ?_)
  | (with_reducible refine i_dget ?_)
  | (with_reducible refine i_tru ?_)
  | (with_reducible refine i_dput ?_)
  | (with_reducible refine i_dnotin ?_)
  | (with_reducible refine i_din ?_)
  | (with_reducible refine i_rev ?_)
  | (with_reducible refine i_isi_int_int ?_) | (with_reducible refine i_isi_int_bool ?_) | (with_reducible refine i_isi_int_str ?_) | (with_reducible refine i_isi_int_tuple ?_) | (with_reducible refine i_isi_int_list ?_)
  | (with_reducible refine i_isi_bl_int ?_) | (with_reducible refine i_isi_bl_bool ?_) | (with_reducible refine i_isi_bl_str ?_) | (with_reducible refine i_isi_bl_tuple ?_) | (with_reducible refine i_isi_bl_list ?_)
  | (with_reducible refine i_isi_str_int ?_) | (with_reducible refine i_isi_str_bool ?_) | (with_reducible refine i_isi_str_str ?_) | (with_reducible refine i_isi_str_tuple ?_) | (with_reducible refine i_isi_str_list ?_)
  | (with_reducible refine i_isi_non_int ?_) | (with_reducible refine i_isi_non_bool ?_) | (with_reducible refine i_isi_non_str ?_) | (with_reducible refine i_isi_non_tuple ?_) | (with_reducible refine i_isi_non_list ?_))
local macro_rules | `(tactic| walk_at "go") => `(tactic| (repeat' (walk_at "s")))
local macro_rules | `(tactic| walk_at "n") => `(tactic| simp only [wipe, List.map_cons, List.map_nil, List.set_cons_zero, List.set_cons_succ])
theorem deep_tupO (d : PyData) : tupO (deepD d) = true := by cases d <;> rfl
theorem prs_step {n1 n2 : Nat} {ds : List PyData} {i : Nat} {d : PyData} (h : ds[i]? = some d) : prs n1 n2 (ds.take (i + 1)) = prs n1 n2 (ds.take i) ++ (prD n1 n2 d).toList := by
  unfold prs
  rw [List.take_succ, h, List.filterMap_append]
  cases e : prD n1 n2 d with
  | none => simp [e]
  | some p => simp [e]
theorem find_yes {f : PyData → Bool} {ds : List PyData} {i : Nat} {d : PyData} (h : ds[i]? = some d) (hf : f d = true) (hb : ∀ k < i, ∀ c, ds[k]? = some c → f c = false) : ds.findIdx? f = some i := by
  rw [List.findIdx?_eq_some_iff_getElem]
  obtain ⟨hp, e⟩ := List.getElem?_eq_some_iff.mp h
  refine ⟨hp, by rw [e]; exact hf, fun j hj => ?_⟩
  have := hb j hj (ds[j]) (List.getElem?_eq_getElem (by omega))
  rw [this]; decide
theorem find_no {f : PyData → Bool} {ds : List PyData} (hb : ∀ k < ds.length, ∀ c, ds[k]? = some c → f c = false) : ds.findIdx? f = none := by
  rw [List.findIdx?_eq_none_iff]
  intro x hx
  obtain ⟨k, hk, e⟩ := List.mem_iff_getElem.mp hx
  exact hb k hk x (by rw [List.getElem?_eq_getElem hk, e])
theorem pairAt {H : Hp} {v : V} {d : PyData} {n1 n2 : Nat} {p : Nat × Nat} (h : At H v d) (t : tupO d = true) (e : prD n1 n2 d = some p) : ∃ b, v = .ref b ∧ H b = some (.tup [.int (p.1 : Int), .int (p.2 : Int)]) := by
  obtain ⟨_, _, rfl | rfl⟩ := prD_some e
  · obtain ⟨b, ys, rfl, hb, _, al⟩ := h.tupled
    cases al with
    | cons h1 h2 =>
    cases h2 with
    | cons h2 h3 =>
    cases h3
    rw [h1.intd, h2.intd] at hb
    exact ⟨b, rfl, hb⟩
  · cases t
section
variable {P : Program} {w : World} {K : PySem.W.Frag} {mg : Str → Option Value} {base : Heap} {C_GlimError C_BadRow C_BadReader C_Reader : Addr}
def p_judge (C : Addr) : P3 := fun x y z H Q _ => ∃ p1 p2 R1 R2 d ds, x = .ref p1 ∧ y = .ref p2 ∧ RA C H p1 R1 ∧ RA C H p2 R2 ∧ Good R1 ∧ Good R2 ∧ At H z d ∧ (d = .list ds ∨ d = .tuple ds) ∧ d.depth < 6 ∧ ∀ H', Same H H' → Q (oI (judged R1 R2 ds)) H'
theorem ok_judge_readers (T : Txt K mg C_GlimError C_BadRow C_BadReader C_Reader) : OK P w K mg base CX0 7 "judge_readers" ["first", "second", "table"] (sp3  (p_judge C_Reader)) := by
  refine OK.mk (k := 6) T.d_judge_readers sc_judge_readers len3 fun f cdv A outer s H vs Q E hr h => ?_
  obtain ⟨x, y, z, rfl, h⟩ := h
  refine ⟨_, (pss_cons (ps_set (i := 3) sc_judge_readers.nd rfl (Or.inl rfl) (pe_fd (ok_deep (K := K) T) (hr.mono (by decide)) pass0 (pa_cons (pv 2) pa_nil))) (pss_cons (Fg.ps_setDcA (i := 4) (own := [("row", 7)]) (g := gName 7) Fg.mtyT (hu_of hr) (by rfl) sc_judge_readers.nd rfl rfl (Fg.swD rfl rfl rfl (by decide +kernel)) (piAny K (pv 3)) (blkOk_by (own := [("row", 7)]) (N := ["first", "second", "table", "rows", "there", "words", "number", "row"]) (sc := (defScope s_judge_readers)) (by decide +kernel)) (fun _ _ _ _ _ => (pg_name (i := 7) sc_judge_readers.nd rfl (Or.inl rfl))) (fun _ _ _ _ _ => (pts_one (pt_val (pe_f (ok_is_state_pair (K := K) T) (hr.mono (by decide)) pass0 (pa_cons (pv 0) (pa_cons (pv 1) (pa_cons (pv 7) pa_nil))))))) (fun _ _ _ _ _ => (pv 7)) (fun _ _ _ _ _ => pe_bl)) (pss_cons (ps_set (i := 5) sc_judge_readers.nd rfl (Or.inl rfl) (pe_f (ok_words_at (K := K) T) (hr.mono (by decide)) pass0 (pa_cons (pv 0) (pa_cons (pv 1) (pa_cons (pe_tup (pa_cons pe_int (pa_cons pe_int pa_nil))) pa_nil))))) (Evl.pss_cut (ps_if (pw_and (pt_cmp (pc_dnotin (hu_of hr) (pe_tup (pa_cons pe_int (pa_cons pe_int pa_nil))) (pv 4))) (pw_and1 (pw_or (pt_cmpR (opEq K hr.units) (pe_ix (ixK K) (pv 5) pe_int (fun _ _ => rfl)) (pe_S []) (nomark _)) (pw_or1 (pt_cmpR (opNe K hr.units) (pe_ix (ixK K) (pv 5) pe_int (fun _ _ => rfl)) (pe_ix (ixK K) (pv 5) pe_int (fun _ _ => rfl)) (nomark _)))).pt)).pt (pss_one (ps_ret (pe_un un_neg pe_int))) pss_nil) (pss_cons (ps_for PassesOwn.never rfl (piEnumT K rfl T.b_enumerate (pa_cons (pv 3) pa_nil)) (pgTup (n := 2) K rfl (pgs_cons (pg_name (i := 6) sc_judge_readers.nd rfl (Or.inl rfl)) (pgs_cons (pg_name (i := 7) sc_judge_readers.nd rfl (Or.inl rfl)) pgs_nil))) (pss_one (ps_if (pw_or (pt_not (pt_val (pe_f (ok_is_state_pair (K := K) T) (hr.mono (by decide)) pass0 (pa_cons (pv 0) (pa_cons (pv 1) (pa_cons (pv 7) pa_nil)))))) (pw_or1 (pt_not (pt_val (pe_f (ok_is_right_row (K := K) T) (hr.mono (by decide)) pass0 (pa_cons (pv 0) (pa_cons (pv 1) (pa_cons (pv 7) (pa_cons (pv 4) pa_nil))))))))).pt (pss_one (ps_ret (pv 6))) pss_nil))) (pss_one (ps_ret pe_non))))))), ?_⟩
  show (_ : TS) { nx := fun _ H' => Q .non H', rt := Q } [some x, some y, some z, none, none, none, none, none] H
  obtain ⟨p1, p2, R1, R2, d, ds, rfl, rfl, h1, h2, g1, g2, hz, hd, dp, q⟩ := h
  have ed : deepD d = .tuple (ds.map deepD) := by
    rcases hd with rfl | rfl <;> (rw [← deepDs_map]; rfl)
  rw [← judged_deep] at q
  walk_at "go"
  refine ⟨H, d, 0, Same.refl H, hz, rfl, by decide, by decide, dp, fun A1 H1 v x1 hv => ?_⟩
  rw [ed] at hv
  have tu : ∀ c ∈ ds.map deepD, tupO c = true := fun c hc => by
    obtain ⟨e, _, rfl⟩ := List.mem_map.mp hc
    exact deep_tupO e
  generalize ds.map deepD = es at *
  have hv := hv.same x1.ag
  have s1 := x1.gg
  obtain ⟨a, xs, rfl, hA, hl, al⟩ := hv.tupled
  have ll := al.len
  have r1 := h1.same s1
  have r2 := h2.same s1
  walk_at "go"
  refine c_dcT (xs := xs) (fun R k => by walk_at "go"; exact k) (.inl (.inl hA)) (fun D i H' => H1 D = none ∧ (∀ b o, b ≠ D → H1 b = some o → H' b = some o) ∧ KD i H' D (thK (prs R1.length R2.length (es.take i)))) (fun D i H' _ p => ?_) (fun D nD => ⟨nD, fun b o hb e => (upd_ne hb).trans e, by
    rw [List.take_zero]
    show KD 0 _ D (thK [])
    rw [thK_nil]
    exact KD.new⟩) (fun D i x H' nD hi p => ?_) (fun D H' nD p => ?_)
  · exact .inl (.inl (p.2.1 _ _ (fun z => by rw [z, p.1] at hA; cases hA) hA))
  · obtain ⟨nD', st, kd⟩ := p
    have sm : Same H1 H' := fun b o e => st b o (fun z => by rw [z, nD] at e; cases e) e
    obtain ⟨c, hc, ac⟩ := al.get hi
    have tc := tu c (List.mem_of_getElem? hc)
    have stp := prs_step (n1 := R1.length) (n2 := R2.length) hc
    show _ ∧ _
    refine ⟨rfl, ?_⟩
    walk_at "n"
    walk_at "go"
    refine ⟨p1, p2, R1, R2, c, rfl, rfl, r1.same sm, r2.same sm, ac.same sm, ?_⟩
    rw [isP_tup _ _ tc]
    cases ep : prD R1.length R2.length c with
    | none =>
      rw [ep] at stp
      refine ⟨_, rfl, ?_⟩
      walk_at "go"
      refine ⟨nD', st, ?_⟩
      rw [stp]
      exact (by simpa using kd.le (Nat.le_succ i))
    | some p =>
      rw [ep] at stp
      obtain ⟨b, rfl, hb⟩ := pairAt (ac.same sm) tc ep
      rw [Option.isSome_some]
      refine ⟨_, rfl, ?_⟩
      walk_at "go"
      obtain ⟨o, dput, kd2⟩ := kd_dput (k := key2 p) (v := .bl true) kd hb (by have := (List.getElem?_eq_some_iff.mp hi).1; omega)
      refine ⟨_, dput, nD', fun b' o' hb' e => (upd_ne hb').trans (st b' o' hb' e), ?_⟩
      rw [stp]
      rw [thK_app] at kd2
      exact kd2
  · obtain ⟨nD', st, kd⟩ := p
    have sm : Same H1 H' := fun b o e => st b o (fun z => by rw [z, nD] at e; cases e) e
    rw [List.take_of_length_le (by rw [ll]; exact Nat.le_refl _)] at kd
    have sH := s1.trans sm
    have wl1 : 0 < R1.length := g1.one
    have wl2 : 0 < R2.length := g2.one
    clear nD' st
    walk_at "go"
    refine i_new (by show 2 ≤ 100000; omega) fun c0 nc0 => ?_
    have sc0 := same_upd (o := .tup [.int 0, .int 0]) nc0
    walk_at "go"
    refine ⟨p1, p2, c0, R1, R2, 0, 0, rfl, rfl, rfl, r1.same (sm.trans sc0), r2.same (sm.trans sc0), upd_same, wl1, wl2, fun c nc => ?_⟩
    have sc := sc0.trans (same_upd (o := .tup [S (wd R1 0), S (wd R2 0)]) nc)
    have hw : upd (upd H' c0 (.tup [.int 0, .int 0])) c (.tup [S (wd R1 0), S (wd R2 0)]) c = some (.tup [S (wd R1 0), S (wd R2 0)]) := upd_same
    generalize upd (upd H' c0 (.tup [.int 0, .int 0])) c (.tup [S (wd R1 0), S (wd R2 0)]) = G at sc hw ⊢
    have kd := kd.mono sc
    have q : ∀ H', Same H H' → Q (oI (if (!decide ((0, 0) ∈ prs R1.length R2.length es) && (decide (wd R1 0 = []) || !decide (wd R1 0 = wd R2 0))) = true then some (-1) else (es.findIdx? (wrongAt R1 R2 (prs R1.length R2.length es))).map fun n : Nat => (n : Int))) H' := q
    have early : (!decide ((0, 0) ∈ prs R1.length R2.length es) && (decide (wd R1 0 = []) || !decide (wd R1 0 = wd R2 0))) = true → ∀ H', Same H H' → Q (.int (-1)) H' := fun e H' s => by
      have := q H' s
      rw [if_pos e] at this
      exact this
    have rest : (!decide ((0, 0) ∈ prs R1.length R2.length es) && (decide (wd R1 0 = []) || !decide (wd R1 0 = wd R2 0))) = false → ∀ H', Same H H' → Q (oI ((es.findIdx? (wrongAt R1 R2 (prs R1.length R2.length es))).map fun n : Nat => (n : Int))) H' := fun e H' s => by
      have := q H' s
      rw [if_neg (by rw [e]; decide)] at this
      exact this
    walk_at "go"
    dsimp only
    refine i_cut (fun σ G' => σ = [some (.ref p1), some (.ref p2), some z, some (.ref a), some (.ref D), some (.ref c), none, none] ∧ Same G G' ∧ ∀ H', Same H H' → Q (oI ((es.findIdx? (wrongAt R1 R2 (prs R1.length R2.length es))).map fun n : Nat => (n : Int))) H') ?_ ?_
    · walk_at "go"
      refine i_new (by show 2 ≤ 100000; omega) fun c1 nc1 => ?_
      have sc1 := same_upd (o := .tup [.int 0, .int 0]) nc1
      walk_at "go"
      refine kd_askT (kd.mono sc1) (k := key2 (0, 0)) upd_same ?_
      rw [thK_at]
      have hw1 := sc1 _ _ hw
      have sG := (sm.trans sc).trans sc1
      have kd := kd.mono sc1
      generalize upd G c1 (.tup [.int 0, .int 0]) = G1 at *
      walk_at "go"
      refine i_decN (fun e1 => ?_) (fun e1 => ?_)
      · rw [decide_eq_false e1, Bool.not_false, Bool.true_and] at early rest
        walk_at "go"
        refine i_dec (fun e2 => ?_) (fun e2 => ?_)
        · rw [decide_eq_true e2, Bool.true_or] at early
          walk_at "go"
          exact early rfl _ (s1.trans sG)
        · rw [decide_eq_false e2, Bool.false_or] at early rest
          walk_at "go"
          refine i_decN (fun e3 => ?_) (fun e3 => ?_)
          · rw [decide_eq_false e3] at early
            walk_at "go"
            exact early rfl _ (s1.trans sG)
          · rw [decide_eq_true e3] at rest
            exact ⟨rfl, sc1, rest rfl⟩
      · rw [decide_eq_true e1] at rest
        walk_at "go"
        exact ⟨rfl, sc1, rest rfl⟩
    · rintro σ G1 ⟨rfl, sc1, q⟩
      have sG := (sm.trans sc).trans sc1
      have kd := kd.mono sc1
      have hA1 := sG _ _ hA
      refine f_enumT (ta := tCons (tVar 3) tNil) (i1 := 6) (i2 := 7) (a := a) (xs := xs) (fun R k => by walk_at "go"; exact k) (.inl (.inl hA1)) (fun i σ H' => ∃ v6 v7, σ = [some (.ref p1), some (.ref p2), some z, some (.ref a), some (.ref D), some (.ref c), v6, v7] ∧ Same G1 H' ∧ ∀ k < i, ∀ c, es[k]? = some c → wrongAt R1 R2 (prs R1.length R2.length es) c = false) ⟨none, none, rfl, Same.refl _, fun k hk => absurd hk (Nat.not_lt_zero _)⟩ (fun i σ' H' _ p => ?_) ?_ ?_
      · obtain ⟨_, _, _, s5, _⟩ := p
        rw [s5 _ _ hA1, hA1]
      · rintro i x σ H' Tt hi ⟨v6, v7, rfl, s5, hb⟩ nT
        show (_ : TS) _ [some (.ref p1), some (.ref p2), some z, some (.ref a), some (.ref D), some (.ref c), some (.int (i : Int)), some x] _
        obtain ⟨e, he, ae⟩ := al.get hi
        have s6 := s5.trans (same_upd (o := .tup [.int (i : Int), x]) nT)
        generalize upd H' Tt (.tup [.int (i : Int), x]) = G2 at *
        have s7 := sG.trans s6
        have te := tu e (List.mem_of_getElem? he)
        walk_at "go"
        refine ⟨p1, p2, R1, R2, e, rfl, rfl, r1.same s7, r2.same s7, ae.same s7, ?_⟩
        rw [isP_tup _ _ te]
        have wr : wrongAt R1 R2 (prs R1.length R2.length es) e = (match prD R1.length R2.length e with
          | none => true
          | some p => !closed R1 R2 (prs R1.length R2.length es) p) := rfl
        have bad : wrongAt R1 R2 (prs R1.length R2.length es) e = true → ∀ H', Same H H' → Q (.int (i : Int)) H' := fun w H' s => by
          have := q H' s
          rw [find_yes he w hb] at this
          exact this
        cases ep : prD R1.length R2.length e with
        | none =>
          rw [ep] at wr
          rw [Option.isSome_none]
          refine ⟨_, rfl, ?_⟩
          walk_at "go"
          exact bad wr _ (s1.trans s7)
        | some p =>
          rw [ep] at wr
          obtain ⟨i1, i2, _⟩ := prD_some ep
          obtain ⟨b, rfl, hb'⟩ := pairAt (ae.same s7) te ep
          rw [Option.isSome_some]
          refine ⟨_, rfl, ?_⟩
          walk_at "go"
          refine ⟨p1, p2, b, D, R1, R2, p.1, p.2, _, _, rfl, rfl, rfl, rfl, r1.same s7, r2.same s7, g1, g2, hb', i1, i2, kd.mono s6, fun H3 s8 => ?_⟩
          refine ⟨_, rfl, ?_⟩
          have wr : wrongAt R1 R2 (prs R1.length R2.length es) e = !closed R1 R2 (prs R1.length R2.length es) p := wr
          cases ec : closed R1 R2 (prs R1.length R2.length es) p with
          | false =>
            rw [ec] at wr
            walk_at "go"
            exact bad wr _ (s1.trans (s7.trans s8))
          | true =>
            rw [ec] at wr
            walk_at "go"
            refine ⟨_, _, rfl, s6.trans s8, fun k hk c' hc' => ?_⟩
            rcases Nat.lt_or_ge k i with h | h
            · exact hb k h c' hc'
            · obtain rfl : k = i := by omega
              rw [he] at hc'
              cases hc'
              exact wr
      · rintro σ H' ⟨v6, v7, rfl, s5, hb⟩
        have e := find_no (f := wrongAt R1 R2 (prs R1.length R2.length es)) (ds := es) (fun k hk => hb k (by omega))
        rw [e] at q
        walk_at "go"
        exact q H' (s1.trans (sG.trans s5))
end
end K47
namespace K47
open PySem PySem.Spec PyProof.Rows L2 Fg
local macro_rules | `(tactic| walk_at "sq") => `(tactic| first
  | assumption
  | exact .inl (.inl (by assumption))
  | exact .inl (.inl upd_same))
local macro_rules | `(tactic| walk_at "st") => `(tactic| first
  | assumption
  | exact .inl (.inl (by assumption))
  | exact .inl (.inl upd_same))
local macro_rules | `(tactic| walk_at "o") => `(tactic| first
  | omega
  | assumption
  | (simp only [List.length_append, List.length_take, List.length_drop, List.length_cons, List.length_nil, List.length_singleton, List.length_map, List.length_range, Int.toNat_natCast] ; omega))
local macro_rules | `(tactic| walk_at "s") => `(tactic| first
  | (with_reducible refine i_seq ?_)
  | (with_reducible refine i_asg ?_)
  | ((with_reducible refine' i_var ?h1 ?_); (case h1 => rfl))
  | (with_reducible refine i_c ?_)
  | ((with_reducible refine' i_gname' ?h1 ?_); (case h1 => (simp only [List.set_cons_zero, List.set_cons_succ]; rfl)))
  | (with_reducible refine i_op ?_)
  | (with_reducible refine i_ifS ?_)
  | (with_reducible refine i_for ?_)
  | (with_reducible refine i_test ?_)
  | (with_reducible refine i_B ?_)
  | (with_reducible refine i_exbl ?_)
  | (with_reducible refine i_exint ?_)
  | (with_reducible refine i_cb ?_)
  | (with_reducible refine i_nil ?_)
  | (with_reducible refine i_cons ?_)
  | (with_reducible refine i_ret ?_)
  | (with_reducible refine i_sl ?_)
  | (with_reducible refine i_nopart ?_)
  | (with_reducible refine i_part ?_)
  | (with_reducible refine i_add_int ?_)
  | (with_reducible refine i_sub ?_)
  | (with_reducible refine i_lt ?_)
  | ((with_reducible refine' i_mod ?h1 ?_); (case h1 => walk_at "o"))
  | ((with_reducible refine' i_fdiv ?h1 ?_); (case h1 => (refine cdiv_small ?_ ?_ <;> walk_at "o")))
  | ((with_reducible refine' i_sl_to ?h1 ?h2 ?_); (case h1 => walk_at "o"); (case h2 => walk_at "o"))
  | ((with_reducible refine' i_sl_from ?h1 ?h2 ?_); (case h1 => walk_at "o"); (case h2 => walk_at "o"))
  | ((with_reducible refine' i_add_str ?h1 ?_); (case h1 => walk_at "o"))
  | ((with_reducible refine' i_mul_int ?h1 ?_); (case h1 => first | (refine mul_small ?_ ?_ <;> walk_at "o") | (refine mul_smallR ?_ ?_ <;> walk_at "o")))
  | (with_reducible refine i_le ?_)
  | (with_reducible refine i_gt ?_)
  | (with_reducible refine i_ge ?_)
  | (with_reducible refine i_eq_int ?_)
  | (with_reducible refine i_eq_str ?_)
  | (with_reducible refine i_ne_int ?_)
  | (with_reducible refine i_ne_str ?_)
  | (with_reducible refine i_eq_bl ?_)
  | (with_reducible refine i_ne_bl ?_)
  | (with_reducible refine i_in_sg ?_)
  | (with_reducible refine i_notIn_sg ?_)
  | (with_reducible refine i_call ?_)
  | (with_reducible refine i_callS ?_)
  | (with_reducible refine i_sp1 ?_)
  | (with_reducible refine i_sp2 ?_)
  | (with_reducible refine i_sp3 ?_)
  | (with_reducible refine i_sp4 ?_)
  | (with_reducible refine i_sp1' ?_)
  | (with_reducible refine i_sp2' ?_)
  | (with_reducible refine i_sp3' ?_)
  | ((with_reducible refine' i_ix_lst ?h1 ?h2 ?_); (case h1 => walk_at "sq"); (case h2 => first | exact atI_nat rfl | rfl))
  | ((with_reducible refine' i_ix_tup ?h1 ?h2 ?_); (case h1 => walk_at "st"); (case h2 => first | exact atI_nat rfl | rfl))
  | (with_reducible refine i_gsub ?_)
  | (with_reducible refine i_par ?_)
  | (with_reducible refine i_lstRg1 ?_)
  | (with_reducible refine i_app ?_)
  | (with_reducible refine i_par2 ?_)
  | ((with_reducible refine' i_aug ?h1 ?_); (case h1 => rfl))
  | (with_reducible refine i_ipI ?_)
  | ((with_reducible refine' i_gtup2 ?h1 ?_); (case h1 => walk_at "st"))
  | (with_reducible refine i_int_bl ?_)
  | (with_reducible refine i_raise ?_)
  | (with_reducible refine i_mkE ?_)
  | (with_reducible refine i_ex1 ?_)
  | (with_reducible refine i_and ?_)
  | (with_reducible refine i_or ?_)
  | (with_reducible refine i_not ?_)
  | (with_reducible refine i_tt ?_)
  | (with_reducible refine i_ff ?_)
  | (with_reducible refine i_nott ?_)
  | (with_reducible refine i_notf ?_)
  | (with_reducible refine i_andV ?_)
  | (with_reducible refine i_orV ?_)
  | (with_reducible refine i_notV ?_)
  | (with_reducible refine i_ifE ?_)
  | (with_reducible refine i_tup ?_)
  | (with_reducible refine i_lst ?_)
  | (with_reducible refine i_un ?_)
  | (with_reducible refine i_neg ?_)
  | (with_reducible refine i_chain ?_)
  | (with_reducible refine i_next ?_)
  | (with_reducible refine i_retN ?_)
  | (with_reducible refine i_drop ?_)
  | (with_reducible refine i_int_int ?_)
  | (with_reducible refine i_abs ?_)
  | (with_reducible refine i_m1c ?_)
  | (with_reducible refine i_is_non ?_)
  | (with_reducible refine i_is_int ?_)
  | (with_reducible refine i_is_bl ?_)
  | (with_reducible refine i_isn_bl ?_)
  | (with_reducible refine i_is_str ?_)
  | (with_reducible refine i_is_ref ?_)
  | (with_reducible refine i_isn_non ?_)
  | (with_reducible refine i_isn_int ?_)
  | (with_reducible refine i_isn_str ?_)
  | (with_reducible refine i_isn_ref ?_)
  | (with_reducible refine i_len_str ?h1 ?_; (case h1 => walk_at "o"))
  | (with_reducible refine i_callD ?_)
  | (with_reducible refine i_spD2 ?_)
  | (with_reducible refine i_spM1 ?_)
  | (with_reducible refine i_spM2 ?_)
  | (with_reducible refine i_spM3 ?_)
  | (with_reducible refine i_spM4 ?_)
  | (with_reducible refine i_spM3d ?_)
  | (with_reducible refine i_tfld ?_)
  | (with_reducible refine i_sfld ?_)
  | (with_reducible refine i_meth ?_)
  | (with_reducible refine i_make ?_)
  | (with_reducible refine i_spl ?_)
  | (with_reducible refine i_mkE2 ?_)
  | (with_reducible refine i_ex2 ?_)
  | (with_reducible refine i_dget ?_)
  | (with_reducible refine i_tru ?_)
  | (with_reducible refine i_dput ?_)
  | (with_reducible refine i_dnotin ?_)
  | (with_reducible refine i_din ?_)
  | (with_reducible refine i_rev ?_)
  | (with_reducible refine i_isi_int_int ?_) | (with_reducible refine i_isi_int_bool ?_) | (with_reducible refine i_isi_int_str ?_) | (with_reducible refine i_isi_int_tuple ?_) | (with_reducible refine i_isi_int_list ?_)
  | (with_reducible refine i_isi_bl_int ?_) | (with_reducible refine i_isi_bl_bool ?_) | (with_reducible refine i_isi_bl_str ?_) | (with_reducible refine i_isi_bl_tuple ?_) | (with_reducible refine i_isi_bl_list ?_)
  | (with_reducible refine i_isi_str_int ?_) | (with_reducible refine i_isi_str_bool ?_) | (with_reducible refine i_isi_str_str ?_) | (with_reducible refine i_isi_str_tuple ?_) | (with_reducible refine i_isi_str_list ?_)
  | (with_reducible refine i_isi_non_int ?_) | (with_reducible refine i_isi_non_bool ?_) | (with_reducible refine i_isi_non_str ?_) | (with_reducible refine i_isi_non_tuple ?_) | (with_reducible refine i_isi_non_list ?_))
local macro_rules | `(tactic| walk_at "go") => `(tactic| (repeat' (walk_at "s")))
local macro_rules | `(tactic| walk_at "n") => `(tactic| simp only [wipe, List.map_cons, List.map_nil, List.set_cons_zero, List.set_cons_succ])
def sgsL (l : List Nat) : Bool := decide (l ≠ []) && decide (l = SG.filter fun c => decide (c ∈ l))
abbrev cWait : List Nat := [119, 97, 105, 116]
abbrev cCount : List Nat := [99, 111, 117, 110, 116]
abbrev cPass : List Nat := [112, 97, 115, 115]
abbrev cMore : List Nat := [109, 111, 114, 101]
abbrev cLast : List Nat := [108, 97, 115, 116]
abbrev cGo : List Nat := [103, 111]
abbrev cName : List Nat := [110, 97, 109, 101]
abbrev cSkip : List Nat := [115, 107, 105, 112]
def odV : Od → List V
  | .wait s n => [S cWait, S s, .int n]
  | .count s t n => [S cCount, S s, S t, .int n]
  | .pass n => [S cPass, .int n]
  | .more n l => [S cMore, .int n, .int l]
  | .last s l => [S cLast, S s, .int l]
  | .go l => [S cGo, .int l]
  | .name w => [S cName, S w]
  | .skip => [S cSkip]
def odW : Od → List Nat
  | .wait _ _ => cWait
  | .count _ _ _ => cCount
  | .pass _ => cPass
  | .more _ _ => cMore
  | .last _ _ => cLast
  | .go _ => cGo
  | .name _ => cName
  | .skip => cSkip
theorem i_w0 {K : PySem.W.Frag} {H : Hp} {Q : VK} {a : Addr} {o : Od} (h : H a = some (.tup (odV o))) (q : Q (S (odW o)) H) : ixP K (.ref a) (.int 0) H Q := by
  refine i_ix_tup (.inl (.inl h)) (v := S (odW o)) ?_ q
  cases o <;> rfl
def lastV : Option Nat → V
  | none => S []
  | some x => S [x]
def sitV : Sit → List V
  | .at line b i c l => [.int line, .int b, .int i, .int c, lastV l]
  | .over w => [.int (-1), S (w.getD [])]
def OrdL (H : Hp) (t : Addr) (os : List Od) : Prop := ∃ xs, H t = some (.lst xs) ∧ xs.length = os.length ∧ ∀ (i : Nat) (o : Od), os[i]? = some o → ∃ a, xs[i]? = some (.ref a) ∧ H a = some (.tup (odV o))
theorem OrdL.same {H H' : Hp} {t : Addr} {os : List Od} (h : OrdL H t os) (s : Same H H') : OrdL H' t os := by
  obtain ⟨xs, h1, h2, h3⟩ := h
  refine ⟨xs, s _ _ h1, h2, fun i o e => ?_⟩
  obtain ⟨a, e1, e2⟩ := h3 i o e
  exact ⟨a, e1, s _ _ e2⟩
def arrO (os : List Od) (m : Nat) (been : List Nat) (line c : Nat) (l : Option Nat) : Od → Sit
  | .name w => .over (some w)
  | o => match beatL o with
    | some b => .at line b 0 (cnt0 o c) l
    | none => arr os m (line :: been) ((jmp o c l).getD (line + 1)) c l
theorem arr_at {os : List Od} {m line c : Nat} {been : List Nat} {l : Option Nat} {o : Od} (h : os[line]? = some o) : arr os (m + 1) been line c l = if line ∈ been then .over none else arrO os m been line c l o := by
  show (match os[line]? with
    | none => Sit.over none
    | some o => if line ∈ been then .over none else match o with
      | .name w => .over (some w)
      | o => match beatL o with
        | some b => .at line b 0 (cnt0 o c) l
        | none => arr os m (line :: been) ((jmp o c l).getD (line + 1)) c l) = _
  rw [h]
  cases o <;> rfl
theorem arr_end {os : List Od} {m line c : Nat} {been : List Nat} {l : Option Nat} (h : os[line]? = none) : arr os (m + 1) been line c l = .over none := by
  show (match os[line]? with
    | none => Sit.over none
    | some o => if line ∈ been then .over none else match o with
      | .name w => .over (some w)
      | o => match beatL o with
        | some b => .at line b 0 (cnt0 o c) l
        | none => arr os m (line :: been) ((jmp o c l).getD (line + 1)) c l) = _
  rw [h]
theorem mem_ints {p : Nat} {been : List Nat} : decide ((p : Int) ∈ been.reverse.map fun j : Nat => (j : Int)) = decide (p ∈ been) := by
  rw [Bool.eq_iff_iff, decide_eq_true_eq, decide_eq_true_eq, List.mem_map]
  constructor
  · rintro ⟨j, hj, e⟩
    have : j = p := by omega
    rw [← this]; exact List.mem_reverse.mp hj
  · intro h
    exact ⟨p, List.mem_reverse.mpr h, rfl⟩
def SitOK (os : List Od) : Sit → Prop
  | .at line _ _ _ _ => ∃ o, os[line]? = some o ∧ (beatL o).isSome = true
  | .over (some w) => Od.name w ∈ os
  | .over none => True
theorem arr_ok {os : List Od} : ∀ (f : Nat) (been : List Nat) (line c : Nat) (l : Option Nat), SitOK os (arr os f been line c l)
  | 0, _, _, _, _ => trivial
  | f + 1, been, line, c, l => by
    cases ho : os[line]? with
    | none => rw [arr_end ho]; trivial
    | some o =>
      rw [arr_at ho]
      split
      · trivial
      · cases o with
        | name w => exact List.mem_of_getElem? ho
        | wait s n => exact ⟨_, ho, rfl⟩
        | count s t n => exact ⟨_, ho, rfl⟩
        | pass n => exact ⟨_, ho, rfl⟩
        | more n l' => exact arr_ok f _ _ _ _
        | last s l' => exact arr_ok f _ _ _ _
        | go l' => exact arr_ok f _ _ _ _
        | skip => exact arr_ok f _ _ _ _
theorem ok_ite {os : List Od} {a b : Sit} {q : Prop} [Decidable q] (h1 : SitOK os a) (h2 : SitOK os b) : SitOK os (if q then a else b) := by
  split
  · exact h1
  · exact h2
theorem led_ok {os : List Od} {line b i c : Nat} {l : Option Nat} (h : SitOK os (.at line b i c l)) (x : Nat) : SitOK os (led os (.at line b i c l) x) := by
  obtain ⟨o, ho, hb⟩ := h
  have st : ∀ {b i c : Nat} {l : Option Nat}, SitOK os (.at line b i c l) := ⟨o, ho, hb⟩
  cases o with
  | pass n =>
    simp only [led, ho]
    exact ok_ite st (arr_ok _ _ _ _ _)
  | wait s n =>
    simp only [led, ho]
    exact ok_ite (arr_ok _ _ _ _ _) st
  | count s t n =>
    simp only [led, ho]
    exact ok_ite (arr_ok _ _ _ _ _) st
  | more n l' => cases hb
  | last s l' => cases hb
  | go l' => cases hb
  | name w => cases hb
  | skip => cases hb
/-- a wait line looks with no count, a pass line has beats left -/
def SitW (os : List Od) : Sit → Prop
  | .at line b i _ _ => (∀ s n, os[line]? = some (.wait s n) → i = 0) ∧ ∀ n, os[line]? = some (.pass n) → 1 ≤ b
  | .over _ => True
theorem w_other {os : List Od} {line b i c : Nat} {l : Option Nat} {o : Od} (h : os[line]? = some o) (h1 : ∀ s n, o = .wait s n → i = 0) (h2 : ∀ n, o = .pass n → 1 ≤ b) : SitW os (.at line b i c l) :=
  ⟨fun s n e => h1 s n (by rw [h] at e; exact Option.some.inj e), fun n e => h2 n (by rw [h] at e; exact Option.some.inj e)⟩
theorem arr_w {os : List Od} (hp : ∀ o ∈ os, posO o) : ∀ (f : Nat) (been : List Nat) (line c : Nat) (l : Option Nat), SitW os (arr os f been line c l)
  | 0, _, _, _, _ => trivial
  | f + 1, been, line, c, l => by
    cases ho : os[line]? with
    | none => rw [arr_end ho]; trivial
    | some o =>
      rw [arr_at ho]
      split
      · trivial
      · cases o with
        | name w => trivial
        | wait s n => exact w_other ho (fun _ _ _ => rfl) (fun _ e => nomatch e)
        | count s t n => exact w_other ho (fun _ _ _ => rfl) (fun _ e => nomatch e)
        | pass n => exact w_other ho (fun _ _ _ => rfl) (fun _ _ => hp _ (List.mem_of_getElem? ho))
        | more n l' => exact arr_w hp f _ _ _ _
        | last s l' => exact arr_w hp f _ _ _ _
        | go l' => exact arr_w hp f _ _ _ _
        | skip => exact arr_w hp f _ _ _ _
theorem w_ite {os : List Od} {a b : Sit} {q : Prop} [Decidable q] (h1 : q → SitW os a) (h2 : SitW os b) : SitW os (if q then a else b) := by
  split
  · exact h1 (by assumption)
  · exact h2
theorem led_w {os : List Od} (hp : ∀ o ∈ os, posO o) {line b i c : Nat} {l : Option Nat} (h : SitOK os (.at line b i c l)) (w : SitW os (.at line b i c l)) (x : Nat) : SitW os (led os (.at line b i c l) x) := by
  obtain ⟨o, ho, hb⟩ := h
  cases o with
  | pass n =>
    simp only [led, ho]
    exact w_ite (fun e => w_other ho (fun _ _ z => nomatch z) (fun _ _ => by omega)) (arr_w hp _ _ _ _ _)
  | wait s n =>
    have : i = 0 := w.1 s n ho
    simp only [led, ho]
    exact w_ite (fun _ => arr_w hp _ _ _ _ _) (w_other ho (fun _ _ _ => this) (fun _ z => nomatch z))
  | count s t n =>
    simp only [led, ho]
    exact w_ite (fun _ => arr_w hp _ _ _ _ _) (w_other ho (fun _ _ z => nomatch z) (fun _ z => nomatch z))
  | more n l' => cases hb
  | last s l' => cases hb
  | go l' => cases hb
  | name w => cases hb
  | skip => cases hb
section
variable {P : Program} {w : World} {K : PySem.W.Frag} {mg : Str → Option Value} {base : Heap} {C_GlimError C_BadRow C_BadReader C_Reader : Addr}
def p_L_settled : P4 := fun x y z u H Q _ => ∃ t os, ∃ line c : Nat, ∃ l, x = .ref t ∧ OrdL H t os ∧ os.length ≤ 20 ∧ y = .int (line : Int) ∧ z = .int (c : Int) ∧ u = lastV l ∧ ∀ r H', H r = none → Same H H' → H' r = some (.tup (sitV (arr os (os.length + 1) [] line c l))) → Q (.ref r) H'
theorem ok_L_settled (T : Txt K mg C_GlimError C_BadRow C_BadReader C_Reader) : OK P w K mg base CX0 1 "_law_settled" ["_law_lines_here", "_law_place", "_law_count", "_law_last"] (sp4  p_L_settled) := by
  refine OK.mk (k := 0) T.d_L_settled sc_L_settled len4 fun f cdv A outer s H vs Q E hr h => ?_
  obtain ⟨x, y, z, u, rfl, h⟩ := h
  refine ⟨_, (pss_cons (ps_set (i := 4) sc_L_settled.nd rfl (Or.inl rfl) (pe_lst pa_nil)) (pss_cons (ps_for PassesOwn.never rfl (pi_range1 rfl T.b_range (pa_cons (pe_op (opAdd K) (pe_callB (cLen K) (by rfl) T.b_len (by decide +kernel) (pa_cons (pv 0) pa_nil)) pe_int) pa_nil)) (pg_name (i := 5) sc_L_settled.nd rfl (Or.inl rfl)) (pss_cons (ps_if (pw_or (pt_cmpR op_geP (pv 1) (pe_callB (cLen K) (by rfl) T.b_len (by decide +kernel) (pa_cons (pv 0) pa_nil)) (nomark _)) (pw_or1 (pt_cmpR (opIn K) (pv 1) (pv 4) (by with_unfolding_all rfl)))).pt (pss_one (ps_ret (pe_tup (pa_cons (pe_un un_neg pe_int) (pa_cons (pe_S []) pa_nil))))) pss_nil) (pss_cons (ps_set (i := 6) sc_L_settled.nd rfl (Or.inl rfl) (pe_ix (ixK K) (pv 0) (pv 1) (fun _ _ => rfl))) (pss_cons (ps_expr (peApp K (pv 4) (pa_cons (pv 1) pa_nil))) (pss_cons (ps_if (pt_cmpR (opEq K hr.units) (pe_ix (ixK K) (pv 6) pe_int (fun _ _ => rfl)) (pe_S [110, 97, 109, 101]) (nomark _)) (pss_one (ps_ret (pe_tup (pa_cons (pe_un un_neg pe_int) (pa_cons (pe_ix (ixK K) (pv 6) pe_int (fun _ _ => rfl)) pa_nil))))) pss_nil) (pss_cons (ps_if (pt_cmpR (opEq K hr.units) (pe_ix (ixK K) (pv 6) pe_int (fun _ _ => rfl)) (pe_S [112, 97, 115, 115]) (nomark _)) (pss_one (ps_ret (pe_tup (pa_cons (pv 1) (pa_cons (pe_ix (ixK K) (pv 6) pe_int (fun _ _ => rfl)) (pa_cons pe_int (pa_cons (pv 2) (pa_cons (pv 3) pa_nil)))))))) pss_nil) (pss_cons (ps_if (pt_cmpR (opEq K hr.units) (pe_ix (ixK K) (pv 6) pe_int (fun _ _ => rfl)) (pe_S [119, 97, 105, 116]) (nomark _)) (pss_one (ps_ret (pe_tup (pa_cons (pv 1) (pa_cons pe_int (pa_cons pe_int (pa_cons (pv 2) (pa_cons (pv 3) pa_nil)))))))) pss_nil) (pss_cons (ps_if (pt_cmpR (opEq K hr.units) (pe_ix (ixK K) (pv 6) pe_int (fun _ _ => rfl)) (pe_S [99, 111, 117, 110, 116]) (nomark _)) (pss_one (ps_ret (pe_tup (pa_cons (pv 1) (pa_cons pe_int (pa_cons pe_int (pa_cons pe_int (pa_cons (pv 3) pa_nil)))))))) pss_nil) (pss_cons (ps_set (i := 1) sc_L_settled.nd rfl (Or.inl rfl) (pe_op (opAdd K) (pv 1) pe_int)) (pss_cons (ps_if (pt_cmpR (opEq K hr.units) (pe_ix (ixK K) (pv 6) pe_int (fun _ _ => rfl)) (pe_S [103, 111]) (nomark _)) (pss_one (ps_set (i := 1) sc_L_settled.nd rfl (Or.inl rfl) (pe_ix (ixK K) (pv 6) pe_int (fun _ _ => rfl)))) pss_nil) (pss_cons (ps_if (pw_and (pt_cmpR (opEq K hr.units) (pe_ix (ixK K) (pv 6) pe_int (fun _ _ => rfl)) (pe_S [109, 111, 114, 101]) (nomark _)) (pw_and1 (pt_cmpR op_geP (pv 2) (pe_ix (ixK K) (pv 6) pe_int (fun _ _ => rfl)) (nomark _)))).pt (pss_one (ps_set (i := 1) sc_L_settled.nd rfl (Or.inl rfl) (pe_ix (ixK K) (pv 6) pe_int (fun _ _ => rfl)))) pss_nil) (pss_one (ps_if (pw_and (pt_cmpR (opEq K hr.units) (pe_ix (ixK K) (pv 6) pe_int (fun _ _ => rfl)) (pe_S [108, 97, 115, 116]) (nomark _)) (pw_and (pt_cmpR (opNe K hr.units) (pv 3) (pe_S []) (nomark _)) (pw_and1 (pt_cmpR (opIn K) (pv 3) (pe_ix (ixK K) (pv 6) pe_int (fun _ _ => rfl)) (by with_unfolding_all rfl))))).pt (pss_one (ps_set (i := 1) sc_L_settled.nd rfl (Or.inl rfl) (pe_ix (ixK K) (pv 6) pe_int (fun _ _ => rfl)))) pss_nil))))))))))))) (pss_one (ps_ret (pe_tup (pa_cons (pe_un un_neg pe_int) (pa_cons (pe_S []) pa_nil))))))), ?_⟩
  show (_ : TS) { nx := fun _ H' => Q .non H', rt := Q } [some x, some y, some z, some u, none, none, none] H
  obtain ⟨t, os, line, c, l, rfl, ho, h20, rfl, rfl, rfl, q⟩ := h
  walk_at "go"
  refine i_new (by show 0 ≤ 100000; omega) fun dk ndk => ?_
  walk_at "go"
  generalize hR : arr os (os.length + 1) [] line c l = R at *
  have len : ∀ {G : Hp} {R : VK}, Same H G → R (.int (os.length : Int)) G → rLenP K [.ref t] G R := fun s k => by
    obtain ⟨xs, ht, xl, _⟩ := ho
    exact i_len_lst (.inl (.inl (s _ _ ht))) (by rw [xl]; exact k)
  refine i_forR ?_
  walk_at "go"
  refine len (same_upd ndk) ?_
  walk_at "go"
  refine i_rngD (n := (os.length : Int) + 1) (by omega) (by omega) (fun i σ H' => ∃ line' : Nat, ∃ been v5 v6, σ = [some (.ref t), some (.int (line' : Int)), some (.int (c : Int)), some (lastV l), some (.ref dk), v5, v6] ∧ Same H H' ∧ H' dk = some (.lst ((been.reverse.map fun j : Nat => (j : Int)).map V.int)) ∧ been.Nodup ∧ (∀ b ∈ been, b < os.length) ∧ been.length = i ∧ i ≤ os.length + 1 ∧ arr os (os.length + 1 - i) been line' c l = R)
    ⟨line, [], none, none, rfl, same_upd ndk, upd_same, List.nodup_nil, fun _ h => absurd h (by simp), rfl, Nat.zero_le _, hR⟩ ?_ ?_
  · rintro i σ H1 hi ⟨line', been, v5, v6, rfl, s1, hbn, nd, hb, bi, _, hR'⟩
    show (_ : TS) _ [some (.ref t), some (.int (line' : Int)), some (.int (c : Int)), some (lastV l), some (.ref dk), some (.int (i : Int)), v6] H1
    have hi' : i < os.length + 1 := by omega
    obtain ⟨m, hm⟩ : ∃ m', os.length + 1 - i = m' + 1 := ⟨os.length - i, by omega⟩
    rw [hm] at hR'
    walk_at "go"
    refine len s1 ?_
    walk_at "go"
    refine i_dec (fun e1 => ?_) (fun e1 => ?_)
    · rw [arr_end (List.getElem?_eq_none (by omega))] at hR'
      walk_at "go"
      refine i_new (by show 2 ≤ 100000; omega) fun r nr => ?_
      refine q r _ (s1.free nr) (s1.trans (same_upd nr)) ?_
      rw [← hR']; exact upd_same
    have lt : line' < os.length := by omega
    obtain ⟨o, ho'⟩ : ∃ o, os[line']? = some o := ⟨_, List.getElem?_eq_getElem lt⟩
    rw [arr_at ho'] at hR'
    walk_at "go"
    refine i_inI hbn ?_
    rw [mem_ints]
    refine ⟨_, rfl, ?_⟩
    refine i_dec (fun e2 => ?_) (fun e2 => ?_)
    · rw [if_pos e2] at hR'
      walk_at "go"
      refine i_new (by show 2 ≤ 100000; omega) fun r nr => ?_
      refine q r _ (s1.free nr) (s1.trans (same_upd nr)) ?_
      rw [← hR']; exact upd_same
    rw [if_neg e2] at hR'
    obtain ⟨xs, ht, xl, hx⟩ := ho.same s1
    obtain ⟨a, hxa, ha0⟩ := hx line' o ho'
    walk_at "go"
    refine i_ix_lst (.inl (.inl ht)) (atI_nat hxa) ?_
    walk_at "go"
    refine i_appAt hbn ?_
    walk_at "go"
    have bl := nodup_le nd hb
    refine i_appEnd hbn (by rw [List.length_map, List.length_map, List.length_reverse]; omega) ?_
    have eb : (been.reverse.map fun j : Nat => (j : Int)).map V.int ++ [.int (line' : Int)] = (((line' :: been).reverse.map fun j : Nat => (j : Int)).map V.int) := by
      rw [List.reverse_cons, List.map_append, List.map_append]; rfl
    rw [eb]
    have s2 : Same H (upd H1 dk (.lst ((((line' :: been).reverse.map fun j : Nat => (j : Int)).map V.int)))) := Same.upd s1 ndk
    have hbn2 : (upd H1 dk (.lst ((((line' :: been).reverse.map fun j : Nat => (j : Int)).map V.int)))) dk = some (.lst ((((line' :: been).reverse.map fun j : Nat => (j : Int)).map V.int))) := upd_same
    have ad : a ≠ dk := fun z => by rw [z, hbn] at ha0; cases ha0
    have ha : (upd H1 dk (.lst ((((line' :: been).reverse.map fun j : Nat => (j : Int)).map V.int)))) a = some (.tup (odV o)) := (upd_ne ad).trans ha0
    generalize upd H1 dk (.lst ((((line' :: been).reverse.map fun j : Nat => (j : Int)).map V.int))) = H2 at *
    have nd' : (line' :: been).Nodup := List.nodup_cons.mpr ⟨e2, nd⟩
    have hb' : ∀ b ∈ line' :: been, b < os.length := fun b h => by
      rcases List.mem_cons.mp h with rfl | h
      · exact lt
      · exact hb b h
    have next : ∀ {j : Nat} {v5 v6 : Option V}, arr os m (line' :: been) j c l = R → ∃ line'' : Nat, ∃ been' v5' v6', ([some (.ref t), some (.int (j : Int)), some (.int (c : Int)), some (lastV l), some (.ref dk), v5, v6] : L2.St) = [some (.ref t), some (.int (line'' : Int)), some (.int (c : Int)), some (lastV l), some (.ref dk), v5', v6'] ∧ Same H H2 ∧ H2 dk = some (.lst ((been'.reverse.map fun j : Nat => (j : Int)).map V.int)) ∧ been'.Nodup ∧ (∀ b ∈ been', b < os.length) ∧ been'.length = i + 1 ∧ i + 1 ≤ os.length + 1 ∧ arr os (os.length + 1 - (i + 1)) been' line'' c l = R :=
      fun h => ⟨_, line' :: been, _, _, rfl, s2, hbn2, nd', hb', by rw [List.length_cons, bi], by omega, by rw [show os.length + 1 - (i + 1) = m by omega]; exact h⟩
    have leave : ∀ {vs : List V}, some (HO.tup vs) = some (.tup (sitV R)) → ∀ r, H2 r = none → Q (.ref r) (upd H2 r (.tup vs)) := fun e r nr => q r _ (s2.free nr) (s2.trans (same_upd nr)) (upd_same.trans e)
    walk_at "go"
    refine i_w0 ha ?_
    walk_at "go"
    refine i_dec (fun e6 => ?_) (fun e6 => ?_)
    · cases o <;> first
        | (exfalso; revert e6; dsimp only [odW]; decide)
        | skip
      rename_i w
      dsimp only [odV] at ha
      walk_at "go"
      exact i_new (by show 2 ≤ 100000; omega) (leave (by rw [← hR']; rfl))
    walk_at "go"
    refine i_w0 ha ?_
    walk_at "go"
    refine i_dec (fun e5 => ?_) (fun e5 => ?_)
    · cases o <;> first
        | (exfalso; revert e5; dsimp only [odW]; decide)
        | skip
      rename_i n
      dsimp only [odV] at ha
      walk_at "go"
      exact i_new (by show 5 ≤ 100000; omega) (leave (by rw [← hR']; rfl))
    walk_at "go"
    refine i_w0 ha ?_
    walk_at "go"
    refine i_dec (fun e3 => ?_) (fun e3 => ?_)
    · cases o <;> first
        | (exfalso; revert e3; dsimp only [odW]; decide)
        | skip
      walk_at "go"
      exact i_new (by show 5 ≤ 100000; omega) (leave (by rw [← hR']; rfl))
    walk_at "go"
    refine i_w0 ha ?_
    walk_at "go"
    refine i_dec (fun e4 => ?_) (fun e4 => ?_)
    · cases o <;> first
        | (exfalso; revert e4; dsimp only [odW]; decide)
        | skip
      walk_at "go"
      exact i_new (by show 5 ≤ 100000; omega) (leave (by rw [← hR']; rfl))
    have hR2 : arr os m (line' :: been) ((jmp o c l).getD (line' + 1)) c l = R := by
      rw [← hR']
      cases o <;> first
        | rfl
        | (exfalso; revert e3; dsimp only [odW]; decide)
        | (exfalso; revert e4; dsimp only [odW]; decide)
        | (exfalso; revert e5; dsimp only [odW]; decide)
        | (exfalso; revert e6; dsimp only [odW]; decide)
    have p1 : (line' : Int) + 1 = ((line' + 1 : Nat) : Int) := rfl
    walk_at "go"
    refine i_w0 ha ?_
    walk_at "go"
    rw [p1]
    refine i_dec (fun e7 => ?_) (fun e7 => ?_)
    · cases o <;> first
        | (exfalso; revert e7; dsimp only [odW]; decide)
        | skip
      rename_i j
      dsimp only [odV] at ha
      have hR2 : arr os m (line' :: been) j c l = R := hR2
      walk_at "go"
      refine i_dec (fun e => absurd e (by decide)) (fun _ => ?_)
      walk_at "go"
      refine i_dec (fun e => absurd e (by decide)) (fun _ => ?_)
      walk_at "go"
      exact next hR2
    walk_at "go"
    refine i_w0 ha ?_
    walk_at "go"
    refine i_dec (fun e8 => ?_) (fun e8 => ?_)
    · cases o <;> first
        | (exfalso; revert e8; dsimp only [odW]; decide)
        | skip
      rename_i n j
      dsimp only [odV] at ha
      have hR2 : arr os m (line' :: been) ((if n ≤ c then some j else none).getD (line' + 1)) c l = R := hR2
      walk_at "go"
      refine i_dec (fun e9 => ?_) (fun e9 => ?_)
      · rw [if_pos (show n ≤ c by omega)] at hR2
        walk_at "go"
        exact next hR2
      · rw [if_neg (show ¬ n ≤ c by omega)] at hR2
        walk_at "go"
        exact next hR2
    walk_at "go"
    refine i_w0 ha ?_
    walk_at "go"
    refine i_dec (fun e9 => ?_) (fun e9 => ?_)
    · cases o <;> first
        | (exfalso; revert e9; dsimp only [odW]; decide)
        | skip
      rename_i g j
      dsimp only [odV] at ha
      cases l with
      | none =>
        dsimp only [lastV]
        walk_at "go"
        exact next hR2
      | some x =>
        have hR2 : arr os m (line' :: been) ((if x ∈ g then some j else none).getD (line' + 1)) c (some x) = R := hR2
        dsimp only [lastV]
        walk_at "go"
        rw [decide_eq_false (show ¬ ([x] = ([] : List Nat)) by simp)]
        walk_at "go"
        refine i_dec (fun e10 => ?_) (fun e10 => ?_)
        · rw [if_pos e10] at hR2
          walk_at "go"
          exact next hR2
        · rw [if_neg e10] at hR2
          walk_at "go"
          exact next hR2
    · have : jmp o c l = none := by
        cases o <;> first
          | rfl
          | (exfalso; revert e7; dsimp only [odW]; decide)
          | (exfalso; revert e8; dsimp only [odW]; decide)
          | (exfalso; revert e9; dsimp only [odW]; decide)
      rw [this] at hR2
      walk_at "go"
      exact next hR2
  · rintro σ H1 ⟨line', been, v5, v6, rfl, s1, hbn, nd, hb, bi, _, hR'⟩
    have : os.length + 1 - ((os.length : Int) + 1).toNat = 0 := by omega
    rw [this] at hR'
    walk_at "go"
    refine i_new (by show 2 ≤ 100000; omega) fun r nr => ?_
    refine q r _ (s1.free nr) (s1.trans (same_upd nr)) ?_
    rw [← hR']; exact upd_same
end
end K47
namespace K47
open PySem PySem.Spec PyProof.Rows L2 Fg
local macro_rules | `(tactic| walk_at "sq") => `(tactic| first
  | assumption
  | exact .inl (.inl (by assumption))
  | exact .inl (.inl upd_same))
local macro_rules | `(tactic| walk_at "st") => `(tactic| first
  | assumption
  | exact .inl (.inl (by assumption))
  | exact .inl (.inl upd_same))
local macro_rules | `(tactic| walk_at "o") => `(tactic| first
  | omega
  | assumption
  | (simp only [List.length_append, List.length_take, List.length_drop, List.length_cons, List.length_nil, List.length_singleton, List.length_map, List.length_range, Int.toNat_natCast] ; omega))
local macro_rules | `(tactic| walk_at "s") => `(tactic| first
  | (with_reducible refine i_seq ?_)
  | (with_reducible refine i_asg ?_)
  | ((with_reducible refine' i_var ?h1 ?_); (case h1 => rfl))
  | (with_reducible refine i_c ?_)
  | ((with_reducible refine' i_gname' ?h1 ?_); (case h1 => (simp only [List.set_cons_zero, List.set_cons_succ]; rfl)))
  | (with_reducible refine i_op ?_)
  | (with_reducible refine i_ifS ?_)
  | (with_reducible refine i_for ?_)
  | (with_reducible refine i_test ?_)
  | (with_reducible refine i_B ?_)
  | (with_reducible refine i_exbl ?_)
  | (with_reducible refine i_exint ?_)
  | (with_reducible refine i_cb ?_)
  | (with_reducible refine i_nil ?_)
  | (with_reducible refine i_cons ?_)
  | (with_reducible refine i_ret ?_)
  | (with_reducible refine i_sl ?_)
  | (with_reducible refine i_nopart ?_)
  | (with_reducible refine i_part ?_)
  | (with_reducible refine i_add_int ?_)
  | (with_reducible refine i_sub ?_)
  | (with_reducible refine i_lt ?_)
  | ((with_reducible refine' i_mod ?h1 ?_); (case h1 => walk_at "o"))
  | ((with_reducible refine' i_fdiv ?h1 ?_); (case h1 => (refine cdiv_small ?_ ?_ <;> walk_at "o")))
  | ((with_reducible refine' i_sl_to ?h1 ?h2 ?_); (case h1 => walk_at "o"); (case h2 => walk_at "o"))
  | ((with_reducible refine' i_sl_from ?h1 ?h2 ?_); (case h1 => walk_at "o"); (case h2 => walk_at "o"))
  | ((with_reducible refine' i_add_str ?h1 ?_); (case h1 => walk_at "o"))
  | ((with_reducible refine' i_mul_int ?h1 ?_); (case h1 => first | (refine mul_small ?_ ?_ <;> walk_at "o") | (refine mul_smallR ?_ ?_ <;> walk_at "o")))
  | (with_reducible refine i_le ?_)
  | (with_reducible refine i_gt ?_)
  | (with_reducible refine i_ge ?_)
  | (with_reducible refine i_eq_int ?_)
  | (with_reducible refine i_eq_str ?_)
  | (with_reducible refine i_ne_int ?_)
  | (with_reducible refine i_ne_str ?_)
  | (with_reducible refine i_eq_bl ?_)
  | (with_reducible refine i_ne_bl ?_)
  | (with_reducible refine i_in_sg ?_)
  | (with_reducible refine i_notIn_sg ?_)
  | (with_reducible refine i_call ?_)
  | (with_reducible refine i_callS ?_)
  | (with_reducible refine i_sp1 ?_)
  | (with_reducible refine i_sp2 ?_)
  | (with_reducible refine i_sp3 ?_)
  | (with_reducible refine i_sp4 ?_)
  | (with_reducible refine i_sp1' ?_)
  | (with_reducible refine i_sp2' ?_)
  | (with_reducible refine i_sp3' ?_)
  | ((with_reducible refine' i_ix_lst ?h1 ?h2 ?_); (case h1 => walk_at "sq"); (case h2 => first | exact atI_nat rfl | rfl))
  | ((with_reducible refine' i_ix_tup ?h1 ?h2 ?_); (case h1 => walk_at "st"); (case h2 => first | exact atI_nat rfl | rfl))
  | (with_reducible refine i_gsub ?_)
  | (with_reducible refine i_par ?_)
  | (with_reducible refine i_lstRg1 ?_)
  | (with_reducible refine i_app ?_)
  | (with_reducible refine i_par2 ?_)
  | ((with_reducible refine' i_aug ?h1 ?_); (case h1 => rfl))
  | (with_reducible refine i_ipI ?_)
  | ((with_reducible refine' i_gtup2 ?h1 ?_); (case h1 => walk_at "st"))
  | (with_reducible refine i_int_bl ?_)
  | (with_reducible refine i_raise ?_)
  | (with_reducible refine i_mkE ?_)
  | (with_reducible refine i_ex1 ?_)
  | (with_reducible refine i_and ?_)
  | (with_reducible refine i_or ?_)
  | (with_reducible refine i_not ?_)
  | (with_reducible refine i_tt ?_)
  | (with_reducible refine i_ff ?_)
  | (with_reducible refine i_nott ?_)
  | (with_reducible refine i_notf ?_)
  | (with_reducible refine i_andV ?_)
  | (with_reducible refine i_orV ?_)
  | (with_reducible refine i_notV ?_)
  | (with_reducible refine i_ifE ?_)
  | (with_reducible refine i_tup ?_)
  | (with_reducible refine i_lst ?_)
  | (with_reducible refine i_un ?_)
  | (with_reducible refine i_neg ?_)
  | (with_reducible refine i_chain ?_)
  | (with_reducible refine i_next ?_)
  | (with_reducible refine i_retN ?_)
  | (with_reducible refine i_drop ?_)
  | (with_reducible refine i_int_int ?_)
  | (with_reducible refine i_abs ?_)
  | (with_reducible refine i_m1c ?_)
  | (with_reducible refine i_is_non ?_)
  | (with_reducible refine i_is_int ?_)
  | (with_reducible refine i_is_bl ?_)
  | (with_reducible refine i_isn_bl ?_)
  | (with_reducible refine i_is_str ?_)
  | (with_reducible refine i_is_ref ?_)
  | (with_reducible refine i_isn_non ?_)
  | (with_reducible refine i_isn_int ?_)
  | (with_reducible refine i_isn_str ?_)
  | (with_reducible refine i_isn_ref ?_)
  | (with_reducible refine i_len_str ?h1 ?_; (case h1 => walk_at "o"))
  | (with_reducible refine i_callD ?_)
  | (with_reducible refine i_spD2 ?_)
  | (with_reducible refine i_spM1 ?_)
  | (with_reducible refine i_spM2 ?_)
  | (with_reducible refine i_spM3 ?_)
  | (with_reducible refine i_spM4 ?_)
  | (with_reducible refine i_spM3d ?_)
  | (with_reducible refine i_tfld ?_)
  | (with_reducible refine i_sfld ?_)
  | (with_reducible refine i_meth ?_)
  | (with_reducible refine i_make ?_)
  | (with_reducible refine i_spl ?_)
  | (with_reducible refine i_mkE2 ?_)
  | (with_reducible refine i_ex2 ?_)
  | (with_reducible refine i_dget ?_)
  | (with_reducible refine i_tru ?_)
  | (with_reducible refine i_dput ?_)
  | (with_reducible refine i_dnotin ?_)
  | (with_reducible refine i_din ?_)
  | (with_reducible refine i_rev ?_)
  | (with_reducible refine i_isi_int_int ?_) | (with_reducible refine i_isi_int_bool ?_) | (with_reducible refine i_isi_int_str ?_) | (with_reducible refine i_isi_int_tuple ?_) | (with_reducible refine i_isi_int_list ?_)
  | (with_reducible refine i_isi_bl_int ?_) | (with_reducible refine i_isi_bl_bool ?_) | (with_reducible refine i_isi_bl_str ?_) | (with_reducible refine i_isi_bl_tuple ?_) | (with_reducible refine i_isi_bl_list ?_)
  | (with_reducible refine i_isi_str_int ?_) | (with_reducible refine i_isi_str_bool ?_) | (with_reducible refine i_isi_str_str ?_) | (with_reducible refine i_isi_str_tuple ?_) | (with_reducible refine i_isi_str_list ?_)
  | (with_reducible refine i_isi_non_int ?_) | (with_reducible refine i_isi_non_bool ?_) | (with_reducible refine i_isi_non_str ?_) | (with_reducible refine i_isi_non_tuple ?_) | (with_reducible refine i_isi_non_list ?_))
local macro_rules | `(tactic| walk_at "go") => `(tactic| (repeat' (walk_at "s")))
local macro_rules | `(tactic| walk_at "n") => `(tactic| simp only [wipe, List.map_cons, List.map_nil, List.set_cons_zero, List.set_cons_succ])
section
variable {P : Program} {w : World} {K : PySem.W.Frag} {mg : Str → Option Value} {base : Heap} {C_GlimError C_BadRow C_BadReader C_Reader : Addr}
def p_L_stepped : P3 := fun x y z H Q _ => ∃ t st os s, ∃ x' : Nat, x = .ref t ∧ y = .ref st ∧ z = S [x'] ∧ OrdL H t os ∧ os.length ≤ 20 ∧ H st = some (.tup (sitV s)) ∧ SitOK os s ∧ SitW os s ∧
  ∀ r H', H r = none ∨ r = st → Same H H' → H' r = some (.tup (sitV (led os s x'))) → Q (.ref r) H'
theorem ok_L_stepped (T : Txt K mg C_GlimError C_BadRow C_BadReader C_Reader) : OK P w K mg base CX0 2 "_law_stepped" ["_law_lines_here", "_law_thing", "_law_sign"] (sp3  p_L_stepped) := by
  refine OK.mk (k := 1) T.d_L_stepped sc_L_stepped len3 fun f cdv A outer s H vs Q E hr h => ?_
  obtain ⟨x, y, z, rfl, h⟩ := h
  refine ⟨_, (pss_cons (ps_if (pt_cmpR (opEq K hr.units) (pe_ix (ixK K) (pv 1) pe_int (fun _ _ => rfl)) (pe_un un_neg pe_int) (nomark _)) (pss_one (ps_ret (pv 1))) pss_nil) (pss_cons (ps_set (i := 3) sc_L_stepped.nd rfl (Or.inl rfl) (pe_ix (ixK K) (pv 0) (pe_ix (ixK K) (pv 1) pe_int (fun _ _ => rfl)) (fun _ _ => rfl))) (pss_cons (ps_set (i := 4) sc_L_stepped.nd rfl (Or.inl rfl) (pe_ix (ixK K) (pv 1) pe_int (fun _ _ => rfl))) (pss_cons (ps_set (i := 5) sc_L_stepped.nd rfl (Or.inl rfl) pe_int) (pss_cons (ps_set (i := 6) sc_L_stepped.nd rfl (Or.inl rfl) (pe_ix (ixK K) (pv 1) pe_int (fun _ _ => rfl))) (pss_cons (ps_if (pt_cmpR (opEq K hr.units) (pe_ix (ixK K) (pv 3) pe_int (fun _ _ => rfl)) (pe_S [112, 97, 115, 115]) (nomark _)) (pss_cons (ps_set (i := 4) sc_L_stepped.nd rfl (Or.inl rfl) (pe_op op_subP (pv 4) pe_int)) (pss_cons (ps_if (pt_cmpR (opEq K hr.units) (pv 4) pe_int (nomark _)) (pss_one (ps_ret (pe_f (ok_L_settled (K := K) T) (hr.mono (by decide)) pass0 (pa_cons (pv 0) (pa_cons (pe_op (opAdd K) (pe_ix (ixK K) (pv 1) pe_int (fun _ _ => rfl)) pe_int) (pa_cons (pv 6) (pa_cons (pv 2) pa_nil))))))) pss_nil) (pss_one (ps_ret (pe_tup (pa_cons (pe_ix (ixK K) (pv 1) pe_int (fun _ _ => rfl)) (pa_cons (pv 4) (pa_cons pe_int (pa_cons (pv 6) (pa_cons (pv 2) pa_nil)))))))))) pss_nil) (Evl.pss_cut (ps_if (pw_and (pt_cmpR (opEq K hr.units) (pe_ix (ixK K) (pv 3) pe_int (fun _ _ => rfl)) (pe_S [99, 111, 117, 110, 116]) (nomark _)) (pw_and1 (pt_cmpR (opIn K) (pv 2) (pe_ix (ixK K) (pv 3) pe_int (fun _ _ => rfl)) (by with_unfolding_all rfl)))).pt (pss_cons (ps_set (i := 5) sc_L_stepped.nd rfl (Or.inl rfl) pe_int) (pss_one (ps_if (pt_cmpR (opEq K hr.units) (pe_ix (ixK K) (pv 1) pe_int (fun _ _ => rfl)) pe_int (nomark _)) (pss_one (ps_set (i := 6) sc_L_stepped.nd rfl (Or.inl rfl) (pe_callB (call_min2 rfl) (by rfl) T.b_min (by decide +kernel) (pa_cons pe_int (pa_cons (pe_op (opAdd K) (pv 6) pe_int) pa_nil))))) pss_nil))) pss_nil) (pss_cons (ps_set (i := 4) sc_L_stepped.nd rfl (Or.inl rfl) (pe_op (opAdd K) (pv 4) pe_int)) (pss_cons (ps_if (pt_cmpR (opNotIn K) (pv 2) (pe_ix (ixK K) (pv 3) (pe_un un_neg pe_int) (fun _ _ => rfl)) (by with_unfolding_all rfl)) (pss_one (ps_set (i := 4) sc_L_stepped.nd rfl (Or.inl rfl) pe_int)) pss_nil) (pss_cons (ps_if (pt_cmpR (opEq K hr.units) (pv 4) (pe_ix (ixK K) (pv 3) (pe_un un_neg pe_int) (fun _ _ => rfl)) (nomark _)) (pss_one (ps_ret (pe_f (ok_L_settled (K := K) T) (hr.mono (by decide)) pass0 (pa_cons (pv 0) (pa_cons (pe_op (opAdd K) (pe_ix (ixK K) (pv 1) pe_int (fun _ _ => rfl)) pe_int) (pa_cons (pv 6) (pa_cons (pv 2) pa_nil))))))) pss_nil) (pss_one (ps_ret (pe_tup (pa_cons (pe_ix (ixK K) (pv 1) pe_int (fun _ _ => rfl)) (pa_cons (pv 4) (pa_cons (pv 5) (pa_cons (pv 6) (pa_cons (pv 2) pa_nil)))))))))))))))))), ?_⟩
  show (_ : TS) { nx := fun _ H' => Q .non H', rt := Q } [some x, some y, some z, none, none, none, none] H
  obtain ⟨t, st, os, s, x, rfl, rfl, rfl, ho, h20, hst, sok, sw, q⟩ := h
  cases s with
  | over w =>
    have q := q st H (.inr rfl) (Same.refl H) hst
    dsimp only [sitV] at hst
    walk_at "go"
    refine i_dec (fun e => ?_) (fun e => absurd rfl e)
    walk_at "go"
    exact q
  | «at» line b i c l =>
  obtain ⟨o, ho', hb⟩ := sok
  obtain ⟨xs, ht, xl, hx⟩ := id ho
  obtain ⟨a, hxa, ha⟩ := hx line o ho'
  dsimp only [sitV] at hst
  walk_at "go"
  refine i_dec (fun e => absurd e (by omega)) (fun _ => ?_)
  walk_at "go"
  have call : ∀ {R : VK} {E' : XK} {c' : Nat} {G : Hp}, Same H G → (∀ r H', H r = none ∨ r = st → Same H H' → H' r = some (.tup (sitV (arr os (os.length + 1) [] (line + 1) c' (some x)))) → R (.ref r) H') → p_L_settled (.ref t) (.int ((line : Int) + 1)) (.int (c' : Int)) (S [x]) G R E' :=
    fun sg k => ⟨t, os, line + 1, _, some x, rfl, ho.same sg, h20, by rw [Int.natCast_add]; rfl, rfl, rfl, fun r H' n s e => k r H' (.inl (sg.free n)) (sg.trans s) e⟩
  refine i_ix_lst (.inl (.inl ht)) (atI_nat hxa) ?_
  walk_at "go"
  refine i_w0 ha ?_
  walk_at "go"
  refine i_dec (fun e => ?_) (fun e => ?_)
  · cases o <;> first
      | (exfalso; revert e; dsimp only [odW]; decide)
      | skip
    rename_i n
    simp only [led, ho'] at q
    walk_at "go"
    have b1 : 1 ≤ b := sw.2 n ho'
    refine i_dec (fun e => ?_) (fun e => ?_)
    · rw [if_neg (show ¬ 1 < b by omega)] at q
      walk_at "go"
      exact call (Same.refl _) q
    · rw [if_pos (show 1 < b by omega)] at q
      walk_at "go"
      refine i_new (by show 5 ≤ 100000; omega) fun r nr => ?_
      refine q r _ (.inl nr) (same_upd nr) ?_
      rw [upd_same]
      show some (HO.tup [.int (line : Int), .int ((b : Int) - 1), .int 0, .int (c : Int), S [x]]) = some (HO.tup [.int (line : Int), .int ((b - 1 : Nat) : Int), .int 0, .int (c : Int), S [x]])
      rw [show (b : Int) - 1 = ((b - 1 : Nat) : Int) by omega]
  walk_at "go"
  refine i_cut (fun σ G => ∃ i' c' : Nat, σ = [some (.ref t), some (.ref st), some (S [x]), some (.ref a), some (.int (b : Int)), some (.int (i' : Int)), some (.int (c' : Int))] ∧ G = H ∧
    atI (odV o) (-2) = some (S (stop o).1) ∧ atI (odV o) (-1) = some (.int ((stop o).2 : Int)) ∧
    ∀ r H', H r = none ∨ r = st → Same H H' → H' r = some (.tup (sitV (if (if x ∈ (stop o).1 then b + 1 else 0) = (stop o).2 then arr os (os.length + 1) [] (line + 1) c' (some x) else .at line (if x ∈ (stop o).1 then b + 1 else 0) i' c' (some x)))) → Q (.ref r) H') ?_ ?_
  · walk_at "go"
    refine i_w0 ha ?_
    walk_at "go"
    refine i_dec (fun e2 => ?_) (fun e2 => ?_)
    · cases o <;> first
        | (exfalso; revert e2; dsimp only [odW]; decide)
        | skip
      rename_i s tt n
      simp only [led, ho'] at q
      dsimp only [odV] at ha
      walk_at "go"
      refine i_dec (fun e3 => ?_) (fun e3 => ?_)
      · simp only [if_pos e3] at q
        walk_at "go"
        refine i_dec (fun e4 => ?_) (fun e4 => ?_)
        · simp only [if_pos (show i = 0 by omega)] at q
          walk_at "go"
          refine ⟨_, _, rfl, ?_⟩
          walk_at "go"
          refine ⟨1, min (c + 1) 9, ?_, rfl, rfl, rfl, q⟩
          rw [show (if (c : Int) + 1 < 9 then (c : Int) + 1 else 9) = ((min (c + 1) 9 : Nat) : Int) by split <;> omega]
          rfl
        · simp only [if_neg (show ¬ i = 0 by omega)] at q
          walk_at "go"
          exact ⟨1, c, rfl, rfl, rfl, rfl, q⟩
      · simp only [if_neg e3] at q
        walk_at "go"
        exact ⟨0, c, rfl, rfl, rfl, rfl, q⟩
    · cases o with
      | wait s n =>
        have i0 : i = 0 := sw.1 s n ho'
        subst i0
        simp only [led, ho'] at q
        walk_at "go"
        exact ⟨0, c, rfl, rfl, rfl, rfl, q⟩
      | pass n => exact absurd rfl e
      | count s tt n => exact absurd rfl e2
      | more n l => cases hb
      | last s l => cases hb
      | go l => cases hb
      | name w => cases hb
      | skip => cases hb
  rintro σ G ⟨i', c', rfl, rfl, h2, h1, q⟩
  walk_at "go"
  refine i_ix_tup (.inl (.inl ha)) h2 ?_
  walk_at "go"
  refine i_decN (fun e3 => ?_) (fun e3 => ?_)
  · simp only [if_neg e3] at q
    walk_at "go"
    refine i_ix_tup (.inl (.inl ha)) h1 ?_
    walk_at "go"
    refine i_dec (fun e4 => ?_) (fun e4 => ?_)
    · rw [if_pos (show 0 = (stop o).2 by omega)] at q
      walk_at "go"
      exact call (Same.refl _) q
    · rw [if_neg (show ¬ 0 = (stop o).2 by omega)] at q
      walk_at "go"
      refine i_new (by show 5 ≤ 100000; omega) fun r nr => ?_
      exact q r _ (.inl nr) (same_upd nr) upd_same
  · simp only [if_pos e3] at q
    walk_at "go"
    refine i_ix_tup (.inl (.inl ha)) h1 ?_
    walk_at "go"
    refine i_dec (fun e4 => ?_) (fun e4 => ?_)
    · rw [if_pos (show b + 1 = (stop o).2 by omega)] at q
      walk_at "go"
      exact call (Same.refl _) q
    · rw [if_neg (show ¬ b + 1 = (stop o).2 by omega)] at q
      walk_at "go"
      refine i_new (by show 5 ≤ 100000; omega) fun r nr => ?_
      exact q r _ (.inl nr) (same_upd nr) upd_same
end
end K47
namespace K47
open PySem PySem.Spec PyProof.Rows L2 Fg
local macro_rules | `(tactic| walk_at "sq") => `(tactic| first
  | assumption
  | exact .inl (.inl (by assumption))
  | exact .inl (.inl upd_same))
local macro_rules | `(tactic| walk_at "st") => `(tactic| first
  | assumption
  | exact .inl (.inl (by assumption))
  | exact .inl (.inl upd_same))
local macro_rules | `(tactic| walk_at "o") => `(tactic| first
  | omega
  | assumption
  | (simp only [List.length_append, List.length_take, List.length_drop, List.length_cons, List.length_nil, List.length_singleton, List.length_map, List.length_range, Int.toNat_natCast] ; omega))
local macro_rules | `(tactic| walk_at "s") => `(tactic| first
  | (with_reducible refine i_seq ?_)
  | (with_reducible refine i_asg ?_)
  | ((with_reducible refine' i_var ?h1 ?_); (case h1 => rfl))
  | (with_reducible refine i_c ?_)
  | ((with_reducible refine' i_gname' ?h1 ?_); (case h1 => (simp only [List.set_cons_zero, List.set_cons_succ]; rfl)))
  | (with_reducible refine i_op ?_)
  | (with_reducible refine i_ifS ?_)
  | (with_reducible refine i_for ?_)
  | (with_reducible refine i_test ?_)
  | (with_reducible refine i_B ?_)
  | (with_reducible refine i_exbl ?_)
  | (with_reducible refine i_exint ?_)
  | (with_reducible refine i_cb ?_)
  | (with_reducible refine i_nil ?_)
  | (with_reducible refine i_cons ?_)
  | (with_reducible refine i_ret ?_)
  | (with_reducible refine i_sl ?_)
  | (with_reducible refine i_nopart ?_)
  | (with_reducible refine i_part ?_)
  | (with_reducible refine i_add_int ?_)
  | (with_reducible refine i_sub ?_)
  | (with_reducible refine i_lt ?_)
  | ((with_reducible refine' i_mod ?h1 ?_); (case h1 => walk_at "o"))
  | ((with_reducible refine' i_fdiv ?h1 ?_); (case h1 => (refine cdiv_small ?_ ?_ <;> walk_at "o")))
  | ((with_reducible refine' i_sl_to ?h1 ?h2 ?_); (case h1 => walk_at "o"); (case h2 => walk_at "o"))
  | ((with_reducible refine' i_sl_from ?h1 ?h2 ?_); (case h1 => walk_at "o"); (case h2 => walk_at "o"))
  | ((with_reducible refine' i_add_str ?h1 ?_); (case h1 => walk_at "o"))
  | ((with_reducible refine' i_mul_int ?h1 ?_); (case h1 => first | (refine mul_small ?_ ?_ <;> walk_at "o") | (refine mul_smallR ?_ ?_ <;> walk_at "o")))
  | (with_reducible refine i_le ?_)
  | (with_reducible refine i_gt ?_)
  | (with_reducible refine i_ge ?_)
  | (with_reducible refine i_eq_int ?_)
  | (with_reducible refine i_eq_str ?_)
  | (with_reducible refine i_ne_int ?_)
  | (with_reducible refine i_ne_str ?_)
  | (with_reducible refine i_eq_bl ?_)
  | (with_reducible refine i_ne_bl ?_)
  | (with_reducible refine i_in_sg ?_)
  | (with_reducible refine i_notIn_sg ?_)
  | (with_reducible refine i_call ?_)
  | (with_reducible refine i_callS ?_)
  | (with_reducible refine i_sp1 ?_)
  | (with_reducible refine i_sp2 ?_)
  | (with_reducible refine i_sp3 ?_)
  | (with_reducible refine i_sp4 ?_)
  | (with_reducible refine i_sp1' ?_)
  | (with_reducible refine i_sp2' ?_)
  | (with_reducible refine i_sp3' ?_)
  | ((with_reducible refine' i_ix_lst ?h1 ?h2 ?_); (case h1 => walk_at "sq"); (case h2 => first | exact atI_nat rfl | rfl))
  | ((with_reducible refine' i_ix_tup ?h1 ?h2 ?_); (case h1 => walk_at "st"); (case h2 => first | exact atI_nat rfl | rfl))
  | (with_reducible refine i_gsub ?_)
  | (with_reducible refine i_par ?_)
  | (with_reducible refine i_lstRg1 ?_)
  | (with_reducible refine i_app ?_)
  | (with_reducible refine i_par2 ?_)
  | ((with_reducible refine' i_aug ?h1 ?_); (case h1 => rfl))
  | (with_reducible refine i_ipI ?_)
  | ((with_reducible refine' i_gtup2 ?h1 ?_); (case h1 => walk_at "st"))
  | (with_reducible refine i_int_bl ?_)
  | (with_reducible refine i_raise ?_)
  | (with_reducible refine i_mkE ?_)
  | (with_reducible refine i_ex1 ?_)
  | (with_reducible refine i_and ?_)
  | (with_reducible refine i_or ?_)
  | (with_reducible refine i_not ?_)
  | (with_reducible refine i_tt ?_)
  | (with_reducible refine i_ff ?_)
  | (with_reducible refine i_nott ?_)
  | (with_reducible refine i_notf ?_)
  | (with_reducible refine i_andV ?_)
  | (with_reducible refine i_orV ?_)
  | (with_reducible refine i_notV ?_)
  | (with_reducible refine i_ifE ?_)
  | (with_reducible refine i_tup ?_)
  | (with_reducible refine i_lst ?_)
  | (with_reducible refine i_un ?_)
  | (with_reducible refine i_neg ?_)
  | (with_reducible refine i_chain ?_)
  | (with_reducible refine i_next ?_)
  | (with_reducible refine i_retN ?_)
  | (with_reducible refine i_drop ?_)
  | (with_reducible refine i_int_int ?_)
  | (with_reducible refine i_abs ?_)
  | (with_reducible refine i_m1c ?_)
  | (with_reducible refine i_is_non ?_)
  | (with_reducible refine i_is_int ?_)
  | (with_reducible refine i_is_bl ?_)
  | (with_reducible refine i_isn_bl ?_)
  | (with_reducible refine i_is_str ?_)
  | (with_reducible refine i_is_ref ?_)
  | (with_reducible refine i_isn_non ?_)
  | (with_reducible refine i_isn_int ?_)
  | (with_reducible refine i_isn_str ?_)
  | (with_reducible refine i_isn_ref ?_)
  | (with_reducible refine i_len_str ?h1 ?_; (case h1 => walk_at "o"))
  | (with_reducible refine i_callD ?_)
  | (with_reducible refine i_spD2 ?_)
  | (with_reducible refine i_spM1 ?_)
  | (with_reducible refine i_spM2 ?_)
  | (with_reducible refine i_spM3 ?_)
  | (with_reducible refine i_spM4 ?_)
  | (with_reducible refine i_spM3d ?_)
  | (with_reducible refine i_tfld ?_)
  | (with_reducible refine i_sfld ?_)
  | (with_reducible refine i_meth ?_)
  | (with_reducible refine i_make ?_)
  | (with_reducible refine i_spl ?_)
  | (with_reducible refine i_mkE2 ?_)
  | (with_reducible refine i_ex2 ?_)
  | (with_reducible refine i_dget ?_)
  | (with_reducible refine i_tru ?_)
  | (with_reducible refine i_dput ?_)
  | (with_reducible refine i_dnotin ?_)
  | (with_reducible refine i_din ?_)
  | (with_reducible refine i_rev ?_)
  | (with_reducible refine i_isi_int_int ?_) | (with_reducible refine i_isi_int_bool ?_) | (with_reducible refine i_isi_int_str ?_) | (with_reducible refine i_isi_int_tuple ?_) | (with_reducible refine i_isi_int_list ?_)
  | (with_reducible refine i_isi_bl_int ?_) | (with_reducible refine i_isi_bl_bool ?_) | (with_reducible refine i_isi_bl_str ?_) | (with_reducible refine i_isi_bl_tuple ?_) | (with_reducible refine i_isi_bl_list ?_)
  | (with_reducible refine i_isi_str_int ?_) | (with_reducible refine i_isi_str_bool ?_) | (with_reducible refine i_isi_str_str ?_) | (with_reducible refine i_isi_str_tuple ?_) | (with_reducible refine i_isi_str_list ?_)
  | (with_reducible refine i_isi_non_int ?_) | (with_reducible refine i_isi_non_bool ?_) | (with_reducible refine i_isi_non_str ?_) | (with_reducible refine i_isi_non_tuple ?_) | (with_reducible refine i_isi_non_list ?_))
local macro_rules | `(tactic| walk_at "go") => `(tactic| (repeat' (walk_at "s")))
local macro_rules | `(tactic| walk_at "n") => `(tactic| simp only [wipe, List.map_cons, List.map_nil, List.set_cons_zero, List.set_cons_succ])
section
variable {K : PySem.W.Frag} {σ : L2.St} {H H0 : Hp} {Q : VK} {te : TE} {ta : TA} {j : Nat} {vs : List Nat} {d : Dd}
end
section
variable {K : PySem.W.Frag} {σ : L2.St} {H H0 : Hp} {Q : VK} {te tl : TE} {j : Nat} {vs : List Nat} {d : Dd} {a : Addr} {xs : List V}
/-- a comprehension over a list that is known, whose elements draw -/
theorem c_lstD (dr : Dr K d H0 H) (hx : H0 a = some (.lst xs)) (ha : ∀ R : VK, R (.ref a) H → tl σ H R) (hn : xs.length ≤ 100000)
    (Pc : Nat → List V → Prop) (h0 : Pc 0 []) (hl : ∀ i acc, Pc i acc → acc.length ≤ 100000) (hw : ∀ x, wipe ((wipe σ vs).set j (some x)) vs = wipe σ vs)
    (he : ∀ (i : Nat) x acc Hk H2, xs[i]? = some x → Pc i acc → Dr K d Hk H2 → ∀ QV : VK, (∀ y H3, Dr K d Hk H3 → Pc (i + 1) (acc ++ [y]) → QV y H3) → te ((wipe σ vs).set j (some x)) H2 QV)
    (q : ∀ Dl H3 acc, H0 Dl = none → Pc xs.length acc → Dr K d (upd H0 Dl (.lst acc)) H3 → Q (.ref Dl) H3) : tLc (iAny K tl) (gName j) tYes te vs σ H Q := by
  refine ha _ (.inl ⟨a, xs, rfl, .inl (.inl (dr.old hx)), fun Dl nD => ?_⟩)
  have n0 : H0 Dl = none := dr.free nD
  have ne : a ≠ Dl := ne_of_none hx n0
  refine lc_list (xs := xs) (fun i H' => ∃ acc, Pc i acc ∧ Dr K d (upd H0 Dl (.lst acc)) H') ⟨[], h0, dr.new nD⟩ (fun i H' _ p => ?_) (fun i x H' hi p => ?_) (fun H' p => ?_)
  · obtain ⟨acc, _, dr'⟩ := p
    exact .inl (.inl (dr'.old ((upd_ne ne).trans hx)))
  · obtain ⟨acc, pc, dr'⟩ := p
    refine ⟨hw _, ?_⟩
    refine i_yes (i_tt ?_)
    refine he i x acc _ H' hi pc dr' _ fun y H3 dr3 pc' => ⟨acc, dr3.old upd_same, Nat.lt_of_le_of_lt (hl i acc pc) (by decide), _, pc', dr3.put dr.cells n0⟩
  · obtain ⟨acc, pc, dr'⟩ := p
    exact q Dl H' acc n0 pc dr'
end
section
variable {K : PySem.W.Frag} {d : Dd} {H0 H : Hp} {q : Addr} {o : HO}
theorem Dr.self (h : Dr K d H0 H) : ∃ o, H d.a = some o := by
  obtain ⟨s0, n0, hc, hl, p, b, u, x, sd, ha, hp⟩ := h
  exact ⟨_, ha⟩
theorem Dr.ne (h : Dr K d H0 H) (n : H q = none) : q ≠ d.a := fun z => by
  obtain ⟨o, e⟩ := h.self
  rw [← z, n] at e
  cases e
end
/-- a new object, known or not -/
theorem Dr.skip {K : PySem.W.Frag} {d : Dd} {H0 H : Hp} {q : Addr} {o : HO} (h : Dr K d H0 H) (n : H q = none) : Dr K d H0 (upd H q o) := h.same (same_upd n)
theorem Dr.step {K : PySem.W.Frag} {d : Dd} {Hk H : Hp} {p : Addr} (o : HO) (h : Dr K d Hk H) (n : H p = none) : ∃ Hk', Same Hk Hk' ∧ Hk' p = some o ∧ Dr K d Hk' (upd H p o) := ⟨upd Hk p o, same_upd (h.free n), upd_same, h.new n⟩
theorem Dr.back {K : PySem.W.Frag} {d : Dd} {H0 H1 H H' : Hp} (h : Dr K d H1 H) (dr : Dr K d H0 H') (s : Same H0 H1) : Dr K d H0 H := by
  obtain ⟨s1, n1, hc1, hl, p, b, u, x, sd, ha, hp⟩ := h
  obtain ⟨s0, n0, hc, _⟩ := dr
  exact ⟨s.trans s1, n0, hc, hl, p, b, u, x, sd, ha, hp⟩
end K47
namespace K47
open PySem PySem.Spec PyProof.Rows L2 Fg
local macro_rules | `(tactic| walk_at "sq") => `(tactic| first
  | assumption
  | exact .inl (.inl (by assumption))
  | exact .inl (.inl upd_same))
local macro_rules | `(tactic| walk_at "st") => `(tactic| first
  | assumption
  | exact .inl (.inl (by assumption))
  | exact .inl (.inl upd_same))
local macro_rules | `(tactic| walk_at "o") => `(tactic| first
  | omega
  | assumption
  | (simp only [List.length_append, List.length_take, List.length_drop, List.length_cons, List.length_nil, List.length_singleton, List.length_map, List.length_range, Int.toNat_natCast] ; omega))
local macro_rules | `(tactic| walk_at "s") => `(tactic| first
  | (with_reducible refine i_seq ?_)
  | (with_reducible refine i_asg ?_)
  | ((with_reducible refine' i_var ?h1 ?_); (case h1 => rfl))
  | (with_reducible refine i_c ?_)
  | ((with_reducible refine' i_gname' ?h1 ?_); (case h1 => (simp only [List.set_cons_zero, List.set_cons_succ]; rfl)))
  | (with_reducible refine i_op ?_)
  | (with_reducible refine i_ifS ?_)
  | (with_reducible refine i_for ?_)
  | (with_reducible refine i_test ?_)
  | (with_reducible refine i_B ?_)
  | (with_reducible refine i_exbl ?_)
  | (with_reducible refine i_exint ?_)
  | (with_reducible refine i_cb ?_)
  | (with_reducible refine i_nil ?_)
  | (with_reducible refine i_cons ?_)
  | (with_reducible refine i_ret ?_)
  | (with_reducible refine i_sl ?_)
  | (with_reducible refine i_nopart ?_)
  | (with_reducible refine i_part ?_)
  | (with_reducible refine i_add_int ?_)
  | (with_reducible refine i_sub ?_)
  | (with_reducible refine i_lt ?_)
  | ((with_reducible refine' i_mod ?h1 ?_); (case h1 => walk_at "o"))
  | ((with_reducible refine' i_fdiv ?h1 ?_); (case h1 => (refine cdiv_small ?_ ?_ <;> walk_at "o")))
  | ((with_reducible refine' i_sl_to ?h1 ?h2 ?_); (case h1 => walk_at "o"); (case h2 => walk_at "o"))
  | ((with_reducible refine' i_sl_from ?h1 ?h2 ?_); (case h1 => walk_at "o"); (case h2 => walk_at "o"))
  | ((with_reducible refine' i_add_str ?h1 ?_); (case h1 => walk_at "o"))
  | ((with_reducible refine' i_mul_int ?h1 ?_); (case h1 => first | (refine mul_small ?_ ?_ <;> walk_at "o") | (refine mul_smallR ?_ ?_ <;> walk_at "o")))
  | (with_reducible refine i_le ?_)
  | (with_reducible refine i_gt ?_)
  | (with_reducible refine i_ge ?_)
  | (with_reducible refine i_eq_int ?_)
  | (with_reducible refine i_eq_str ?_)
  | (with_reducible refine i_ne_int ?_)
  | (with_reducible refine i_ne_str ?_)
  | (with_reducible refine i_eq_bl ?_)
  | (with_reducible refine i_ne_bl ?_)
  | (with_reducible refine i_in_sg ?_)
  | (with_reducible refine i_notIn_sg ?_)
  | (with_reducible refine i_call ?_)
  | (with_reducible refine i_callS ?_)
  | (with_reducible refine i_sp1 ?_)
  | (with_reducible refine i_sp2 ?_)
  | (with_reducible refine i_sp3 ?_)
  | (with_reducible refine i_sp4 ?_)
  | (with_reducible refine i_sp1' ?_)
  | (with_reducible refine i_sp2' ?_)
  | (with_reducible refine i_sp3' ?_)
  | ((with_reducible refine' i_ix_lst ?h1 ?h2 ?_); (case h1 => walk_at "sq"); (case h2 => first | exact atI_nat rfl | rfl))
  | ((with_reducible refine' i_ix_tup ?h1 ?h2 ?_); (case h1 => walk_at "st"); (case h2 => first | exact atI_nat rfl | rfl))
  | (with_reducible refine i_gsub ?_)
  | (with_reducible refine i_par ?_)
  | (with_reducible refine i_lstRg1 ?_)
  | (with_reducible refine i_app ?_)
  | (with_reducible refine i_par2 ?_)
  | ((with_reducible refine' i_aug ?h1 ?_); (case h1 => rfl))
  | (with_reducible refine i_ipI ?_)
  | ((with_reducible refine' i_gtup2 ?h1 ?_); (case h1 => walk_at "st"))
  | (with_reducible refine i_int_bl ?_)
  | (with_reducible refine i_raise ?_)
  | (with_reducible refine i_mkE ?_)
  | (with_reducible refine i_ex1 ?_)
  | (with_reducible refine i_and ?_)
  | (with_reducible refine i_or ?_)
  | (with_reducible refine i_not ?_)
  | (with_reducible refine i_tt ?_)
  | (with_reducible refine i_ff ?_)
  | (with_reducible refine i_nott ?_)
  | (with_reducible refine i_notf ?_)
  | (with_reducible refine i_andV ?_)
  | (with_reducible refine i_orV ?_)
  | (with_reducible refine i_notV ?_)
  | (with_reducible refine i_ifE ?_)
  | (with_reducible refine i_tup ?_)
  | (with_reducible refine i_lst ?_)
  | (with_reducible refine i_un ?_)
  | (with_reducible refine i_neg ?_)
  | (with_reducible refine i_chain ?_)
  | (with_reducible refine i_next ?_)
  | (with_reducible refine i_retN ?_)
  | (with_reducible refine i_drop ?_)
  | (with_reducible refine i_int_int ?_)
  | (with_reducible refine i_abs ?_)
  | (with_reducible refine i_m1c ?_)
  | (with_reducible refine i_is_non ?_)
  | (with_reducible refine i_is_int ?_)
  | (with_reducible refine i_is_bl ?_)
  | (with_reducible refine i_isn_bl ?_)
  | (with_reducible refine i_is_str ?_)
  | (with_reducible refine i_is_ref ?_)
  | (with_reducible refine i_isn_non ?_)
  | (with_reducible refine i_isn_int ?_)
  | (with_reducible refine i_isn_str ?_)
  | (with_reducible refine i_isn_ref ?_)
  | (with_reducible refine i_len_str ?h1 ?_; (case h1 => walk_at "o"))
  | (with_reducible refine i_callD ?_)
  | (with_reducible refine i_spD2 ?_)
  | (with_reducible refine i_spM1 ?_)
  | (with_reducible refine i_spM2 ?_)
  | (with_reducible refine i_spM3 ?_)
  | (with_reducible refine i_spM4 ?_)
  | (with_reducible refine i_spM3d ?_)
  | (with_reducible refine i_tfld ?_)
  | (with_reducible refine i_sfld ?_)
  | (with_reducible refine i_meth ?_)
  | (with_reducible refine i_make ?_)
  | (with_reducible refine i_spl ?_)
  | (with_reducible refine i_mkE2 ?_)
  | (with_reducible refine i_ex2 ?_)
  | (with_reducible refine i_dget ?_)
  | (with_reducible refine i_tru ?_)
  | (with_reducible refine i_dput ?_)
  | (with_reducible refine i_dnotin ?_)
  | (with_reducible refine i_din ?_)
  | (with_reducible refine i_rev ?_)
  | (with_reducible refine i_isi_int_int ?_) | (with_reducible refine i_isi_int_bool ?_) | (with_reducible refine i_isi_int_str ?_) | (with_reducible refine i_isi_int_tuple ?_) | (with_reducible refine i_isi_int_list ?_)
  | (with_reducible refine i_isi_bl_int ?_) | (with_reducible refine i_isi_bl_bool ?_) | (with_reducible refine i_isi_bl_str ?_) | (with_reducible refine i_isi_bl_tuple ?_) | (with_reducible refine i_isi_bl_list ?_)
  | (with_reducible refine i_isi_str_int ?_) | (with_reducible refine i_isi_str_bool ?_) | (with_reducible refine i_isi_str_str ?_) | (with_reducible refine i_isi_str_tuple ?_) | (with_reducible refine i_isi_str_list ?_)
  | (with_reducible refine i_isi_non_int ?_) | (with_reducible refine i_isi_non_bool ?_) | (with_reducible refine i_isi_non_str ?_) | (with_reducible refine i_isi_non_tuple ?_) | (with_reducible refine i_isi_non_list ?_))
local macro_rules | `(tactic| walk_at "go") => `(tactic| (repeat' (walk_at "s")))
local macro_rules | `(tactic| walk_at "n") => `(tactic| simp only [wipe, List.map_cons, List.map_nil, List.set_cons_zero, List.set_cons_succ])
abbrev LET : List Nat := [97, 98, 99, 100, 101, 102, 103, 104, 105, 106, 107, 108, 109, 110, 111, 112, 113, 114, 115, 116, 117, 118, 119, 120, 121, 122]
abbrev TWO : List (List Nat) := [[], [55], [98, 111], [122, 122, 122]]
def wordsN : List (List Nat) := LET.flatMap fun c => TWO.map fun t => c :: t
theorem wordsN_at : ∀ i < 26, ∀ j < 4, wordsN[4 * i + j]? = some (LET.getD i 0 :: TWO.getD j []) := by decide +kernel
theorem wordsN_len : wordsN.length = 104 := by decide +kernel
theorem wordsN_ok : ∀ w ∈ wordsN, w ≠ [] ∧ w.length ≤ 4 ∧ (∀ c ∈ w, c ∈ LET ++ [48, 49, 50, 51, 52, 53, 54, 55, 56, 57]) ∧ ∀ c ∈ w, c < 256 := by decide +kernel
theorem wordsN_nd : wordsN.Nodup := by decide +kernel
theorem len_sub : ∀ {l m : List (List Nat)}, l.Nodup → (∀ x ∈ l, x ∈ m) → l.length ≤ m.length
  | [], _, _, _ => Nat.zero_le _
  | x :: l, m, nd, h => by
    obtain ⟨n1, n2⟩ := List.nodup_cons.mp nd
    have hx : x ∈ m := h x (List.mem_cons_self ..)
    have ih := len_sub (l := l) (m := m.erase x) n2 fun y hy => by
      have : y ≠ x := fun z => n1 (by rw [← z]; exact hy)
      exact (List.mem_erase_of_ne this).mpr (h y (List.mem_cons_of_mem _ hy))
    rw [List.length_erase_of_mem hx] at ih
    have := List.length_pos_of_mem hx
    rw [List.length_cons]
    omega
def PL (used : List (List Nat)) (n : Nat) : List (List Nat) := (wordsN.take n).filter fun w => !decide (w ∈ used)
theorem PL_step {used : List (List Nat)} {n : Nat} {w : List Nat} (h : wordsN[n]? = some w) : PL used (n + 1) = if w ∈ used then PL used n else PL used n ++ [w] := by
  unfold PL
  rw [List.take_succ, h, List.filter_append]
  by_cases e : w ∈ used
  · rw [if_pos e]
    show _ ++ List.filter _ [w] = _
    rw [List.filter_cons_of_neg (by rw [decide_eq_true e]; decide)]
    simp
  · rw [if_neg e]
    show _ ++ List.filter _ [w] = _
    rw [List.filter_cons_of_pos (by rw [decide_eq_false e]; rfl)]
    rfl
theorem PL_mem {used : List (List Nat)} {n : Nat} {w : List Nat} (h : w ∈ PL used n) : w ∈ wordsN := List.mem_of_mem_take (List.mem_filter.mp h).1
theorem PL_len (used : List (List Nat)) (n : Nat) : (PL used n).length ≤ 104 := by
  unfold PL
  refine Nat.le_trans (List.length_filter_le _ _) ?_
  rw [List.length_take, wordsN_len]
  omega
theorem PL_used {used : List (List Nat)} {n : Nat} {w : List Nat} (h : w ∈ PL used n) : w ∉ used := by
  have := (List.mem_filter.mp h).2
  simpa using this
theorem PL_pos {used : List (List Nat)} (h : used.length ≤ 100) : 1 ≤ (PL used 104).length := by
  have e : PL used 104 = wordsN.filter fun w => !decide (w ∈ used) := by
    unfold PL
    rw [List.take_of_length_le (by rw [wordsN_len]; exact Nat.le_refl _)]
  rcases Nat.eq_zero_or_pos (PL used 104).length with z | z
  · have z' := List.length_eq_zero_iff.mp z
    rw [e, List.filter_eq_nil_iff] at z'
    have key : ∀ w ∈ wordsN, w ∈ used := fun w hw => Decidable.byContradiction fun n => z' w hw (by rw [decide_eq_false n]; rfl)
    have := len_sub wordsN_nd key
    rw [wordsN_len] at this
    omega
  · exact z
section
variable {P : Program} {w : World} {K : PySem.W.Frag} {mg : Str → Option Value} {base : Heap} {C_GlimError C_BadRow C_BadReader C_Reader : Addr}
def p_L_name (K : PySem.W.Frag) : P2 := fun x y H Q _ => ∃ Hk dd us, ∃ used : List (List Nat), x = .ref dd.a ∧ y = .ref us ∧ Dr K dd Hk H ∧ Hk us = some (.lst (used.map S)) ∧ used.length ≤ 100 ∧ ∀ w H', Dr K dd Hk H' → w ∈ wordsN → w ∉ used → Q (S w) H'
theorem ok_L_name (T : Txt K mg C_GlimError C_BadRow C_BadReader C_Reader) : OK P w K mg base CX0 3 "_law_name" ["_law_draw_here", "_law_used"] (sp2  (p_L_name K)) := by
  refine OK.mk (k := 2) T.d_L_name sc_L_name len2 fun f cdv A outer s H vs Q E hr h => ?_
  obtain ⟨x, y, rfl, h⟩ := h
  refine ⟨_, (pss_cons (ps_set (i := 2) sc_L_name.nd rfl (Or.inl rfl) (pe_lst pa_nil)) (pss_cons (ps_for PassesOwn.never rfl (piAny K (pe_S [97, 98, 99, 100, 101, 102, 103, 104, 105, 106, 107, 108, 109, 110, 111, 112, 113, 114, 115, 116, 117, 118, 119, 120, 121, 122])) (pg_name (i := 3) sc_L_name.nd rfl (Or.inl rfl)) (pss_one (ps_for PassesOwn.never rfl (piAny K (pe_lst (pa_cons (pe_S []) (pa_cons (pe_S [55]) (pa_cons (pe_S [98, 111]) (pa_cons (pe_S [122, 122, 122]) pa_nil)))))) (pg_name (i := 4) sc_L_name.nd rfl (Or.inl rfl)) (pss_one (ps_if (pt_cmpR (opNotIn K) (pe_op (opAdd K) (pv 3) (pv 4)) (pv 1) (by with_unfolding_all rfl)) (pss_one (ps_expr (peApp K (pv 2) (pa_cons (pe_op (opAdd K) (pv 3) (pv 4)) pa_nil)))) pss_nil))))) (pss_one (ps_ret (pe_ix (ixK K) (pv 2) (pe_f (ok_L_pick (K := K) T) (hr.mono (by decide)) pass0 (pa_cons (pv 0) (pa_cons (pe_callB (cLen K) (by rfl) T.b_len (by decide +kernel) (pa_cons (pv 2) pa_nil)) pa_nil))) (fun _ _ => rfl)))))), ?_⟩
  show (_ : TS) { nx := fun _ H' => Q .non H', rt := Q } [some x, some y, none, none, none] H
  obtain ⟨Hk, dd, us, used, rfl, rfl, dr, hu, ul, q⟩ := h
  walk_at "go"
  refine i_new (by show 0 ≤ 100000; omega) fun pl npl => ?_
  have kpl := dr.free npl
  have hup : us ≠ pl := ne_of_none hu kpl
  walk_at "go"
  refine i_forS (z := LET) (fun i σ' G => ∃ v3 v4, σ' = [some (.ref dd.a), some (.ref us), some (.ref pl), v3, v4] ∧ Dr K dd (upd Hk pl (.lst ((PL used (4 * i)).map S))) G) ⟨none, none, rfl, dr.new npl⟩ ?_ ?_
  · rintro i c σ' G hc ⟨v3, v4, rfl, d1⟩
    show (_ : TS) _ [some (.ref dd.a), some (.ref us), some (.ref pl), some (S [c]), v4] G
    have hi : i < 26 := (List.getElem?_eq_some_iff.mp hc).1
    have ec : LET.getD i 0 = c := by rw [List.getD_eq_getElem?_getD, hc]; rfl
    walk_at "go"
    refine i_new (by show 4 ≤ 100000; omega) fun t nt => ?_
    have tp : t ≠ pl := fun z => by rw [z, d1.old upd_same] at nt; cases nt
    refine i_forL (xs := TWO.map S) (.inl (.inl upd_same)) (fun j σ' G' => ∃ v4, σ' = [some (.ref dd.a), some (.ref us), some (.ref pl), some (S [c]), v4] ∧ Dr K dd (upd Hk pl (.lst ((PL used (4 * i + j)).map S))) G' ∧ G' t = some (.lst (TWO.map S))) ⟨v4, rfl, d1.same (same_upd nt), upd_same⟩ ?_ ?_ ?_
    · rintro j σ' G' _ ⟨v4, rfl, _, g⟩
      exact .inl (.inl g)
    · rintro j x σ' G' hj ⟨v4, rfl, d3, g⟩
      rw [List.getElem?_map] at hj
      obtain ⟨tw, htw, rfl⟩ := Option.map_eq_some_iff.mp hj
      show (_ : TS) _ [some (.ref dd.a), some (.ref us), some (.ref pl), some (S [c]), some (S tw)] G'
      have hj4 : j < 4 := (List.getElem?_eq_some_iff.mp htw).1
      have et : TWO.getD j [] = tw := by rw [List.getD_eq_getElem?_getD, htw]; rfl
      have hw := wordsN_at i hi j hj4
      rw [ec, et] at hw
      have hw : wordsN[4 * i + j]? = some ([c] ++ tw) := hw
      have st := PL_step (used := used) hw
      have tl : tw.length ≤ 3 := by
        have : ∀ t ∈ TWO, t.length ≤ 3 := by decide
        exact this tw (List.mem_of_getElem? htw)
      have one : ([c] : List Nat).length = 1 := rfl
      have hus := d3.old ((upd_ne hup).trans hu)
      walk_at "go"
      refine i_ninS (ms := used) hus ?_
      walk_at "go"
      refine i_decN (fun e => ?_) (fun e => ?_)
      · rw [if_neg e] at st
        have hp := d3.old upd_same
        walk_at "go"
        refine i_appAt hp ?_
        walk_at "go"
        refine i_appEnd hp (by rw [List.length_map]; have := PL_len used (4 * i + j); omega) ?_
        have e2 : (PL used (4 * i + j)).map S ++ [S ([c] ++ tw)] = (PL used (4 * i + (j + 1))).map S := by
          rw [← Nat.add_assoc, st, List.map_append]; rfl
        rw [e2]
        exact ⟨_, rfl, d3.put dr.cells kpl, (upd_ne tp).trans g⟩
      · rw [if_pos e] at st
        walk_at "go"
        refine ⟨_, rfl, ?_, g⟩
        rw [← Nat.add_assoc, st]
        exact d3
    · rintro σ' G' ⟨v4, rfl, d3, g⟩
      exact ⟨_, _, rfl, d3⟩
  · rintro σ' G ⟨v3, v4, rfl, d1⟩
    have hp := d1.old upd_same
    have pos := PL_pos ul
    have le := PL_len used 104
    have d1 : Dr K dd (upd Hk pl (.lst ((PL used 104).map S))) G := d1
    have hp : G pl = some (.lst ((PL used 104).map S)) := hp
    have hmem : ∀ w ∈ PL used 104, w ∈ wordsN ∧ w ∉ used := fun w hw => ⟨PL_mem hw, PL_used hw⟩
    generalize PL used 104 = ws at *
    walk_at "go"
    refine i_len_lst (.inl (.inl hp)) ?_
    walk_at "go"
    refine ⟨_, dd, _, rfl, rfl, d1, by rw [List.length_map]; omega, fun n H2 d2 bn => ?_⟩
    rw [List.length_map] at bn
    have n0 := bn.1
    have n1 : n < (ws.length : Int) := by
      by_cases z : 2 ≤ (ws.length : Int)
      · exact bn.2.1 z
      · have := bn.2.2 (by omega); omega
    have hn : n.toNat < ws.length := by omega
    refine i_ix_lst (v := S ws[n.toNat]) (.inl (.inl (d2.old upd_same))) (atI_int n0 (by rw [List.getElem?_map, List.getElem?_eq_getElem hn]; rfl)) ?_
    obtain ⟨m1, m2⟩ := hmem _ (List.getElem_mem hn)
    exact q _ _ (d2.less dr.cells kpl) m1 m2
def p_L_names (K : PySem.W.Frag) : P2 := fun x y H Q _ => ∃ Hk dd, ∃ many : Nat, x = .ref dd.a ∧ y = .int (many : Int) ∧ many ≤ 100 ∧ Dr K dd Hk H ∧ ∀ nl (ns : List (List Nat)) H', Hk nl = none → Dr K dd (upd Hk nl (.lst (ns.map S))) H' → ns.length = many → ns.Nodup → (∀ w ∈ ns, w ∈ wordsN) → Q (.ref nl) H'
theorem ok_L_names (T : Txt K mg C_GlimError C_BadRow C_BadReader C_Reader) : OK P w K mg base CX0 4 "_law_names" ["_law_draw_here", "_law_many"] (sp2  (p_L_names K)) := by
  refine OK.mk (k := 3) T.d_L_names sc_L_names len2 fun f cdv A outer s H vs Q E hr h => ?_
  obtain ⟨x, y, rfl, h⟩ := h
  refine ⟨_, (pss_cons (ps_set (i := 2) sc_L_names.nd rfl (Or.inl rfl) (pe_lst pa_nil)) (pss_cons (ps_for PassesOwn.never rfl (pi_range1 rfl T.b_range (pa_cons (pv 1) pa_nil)) (pg_name (i := 3) sc_L_names.nd rfl (Or.inl rfl)) (pss_one (ps_expr (peApp K (pv 2) (pa_cons (pe_f (ok_L_name (K := K) T) (hr.mono (by decide)) pass0 (pa_cons (pv 0) (pa_cons (pv 2) pa_nil))) pa_nil))))) (pss_one (ps_ret (pv 2))))), ?_⟩
  show (_ : TS) { nx := fun _ H' => Q .non H', rt := Q } [some x, some y, none, none] H
  obtain ⟨Hk, dd, many, rfl, rfl, hmany, dr, q⟩ := h
  walk_at "go"
  refine i_new (by show 0 ≤ 100000; omega) fun nl nnl => ?_
  have knl := dr.free nnl
  walk_at "go"
  refine f_rng1 many (fun R k => by walk_at "go"; exact k) (by omega) (fun i σ G => ∃ v3, ∃ ns : List (List Nat), σ = [some (.ref dd.a), some (.int (many : Int)), some (.ref nl), v3] ∧ Dr K dd (upd Hk nl (.lst (ns.map S))) G ∧ ns.length = i ∧ ns.Nodup ∧ ∀ w ∈ ns, w ∈ wordsN) ⟨none, [], rfl, dr.new nnl, rfl, List.nodup_nil, fun w h => absurd h (by simp)⟩ ?_ ?_
  · rintro i σ G hi ⟨v3, ns, rfl, d1, il, nd, hm⟩
    show (_ : TS) _ [some (.ref dd.a), some (.int (many : Int)), some (.ref nl), some (.int (i : Int))] G
    have hp := d1.old upd_same
    walk_at "go"
    refine i_appAt hp ?_
    walk_at "go"
    refine ⟨_, dd, nl, ns, rfl, rfl, d1, upd_same, by omega, fun w H2 d2 hw hu => ?_⟩
    walk_at "go"
    refine i_appEnd (d2.old upd_same) (by rw [List.length_map]; omega) ?_
    have e2 : ns.map S ++ [S w] = (ns ++ [w]).map S := by rw [List.map_append]; rfl
    rw [e2]
    refine ⟨_, ns ++ [w], rfl, d2.put dr.cells knl, by rw [List.length_append, il]; rfl, ?_, fun x hx => ?_⟩
    · rw [List.nodup_append]
      refine ⟨nd, by simp, fun a ha b hb => ?_⟩
      rw [List.mem_singleton.mp hb]
      intro z
      exact hu (by rw [← z]; exact ha)
    · rcases List.mem_append.mp hx with hx | hx
      · exact hm x hx
      · rw [List.mem_singleton.mp hx]; exact hw
  · rintro σ G ⟨v3, ns, rfl, d1, il, nd, hm⟩
    walk_at "go"
    exact q nl ns G knl d1 il nd hm
end
end K47
namespace K47
open PySem PySem.Spec PyProof.Rows L2 Fg
local macro_rules | `(tactic| walk_at "sq") => `(tactic| first
  | assumption
  | exact .inl (.inl (by assumption))
  | exact .inl (.inl upd_same))
local macro_rules | `(tactic| walk_at "st") => `(tactic| first
  | assumption
  | exact .inl (.inl (by assumption))
  | exact .inl (.inl upd_same))
local macro_rules | `(tactic| walk_at "o") => `(tactic| first
  | omega
  | assumption
  | (simp only [List.length_append, List.length_take, List.length_drop, List.length_cons, List.length_nil, List.length_singleton, List.length_map, List.length_range, Int.toNat_natCast] ; omega))
local macro_rules | `(tactic| walk_at "s") => `(tactic| first
  | (with_reducible refine i_seq ?_)
  | (with_reducible refine i_asg ?_)
  | ((with_reducible refine' i_var ?h1 ?_); (case h1 => rfl))
  | (with_reducible refine i_c ?_)
  | ((with_reducible refine' i_gname' ?h1 ?_); (case h1 => (simp only [List.set_cons_zero, List.set_cons_succ]; rfl)))
  | (with_reducible refine i_op ?_)
  | (with_reducible refine i_ifS ?_)
  | (with_reducible refine i_for ?_)
  | (with_reducible refine i_test ?_)
  | (with_reducible refine i_B ?_)
  | (with_reducible refine i_exbl ?_)
  | (with_reducible refine i_exint ?_)
  | (with_reducible refine i_cb ?_)
  | (with_reducible refine i_nil ?_)
  | (with_reducible refine i_cons ?_)
  | (with_reducible refine i_ret ?_)
  | (with_reducible refine i_sl ?_)
  | (with_reducible refine i_nopart ?_)
  | (with_reducible refine i_part ?_)
  | (with_reducible refine i_add_int ?_)
  | (with_reducible refine i_sub ?_)
  | (with_reducible refine i_lt ?_)
  | ((with_reducible refine' i_mod ?h1 ?_); (case h1 => walk_at "o"))
  | ((with_reducible refine' i_fdiv ?h1 ?_); (case h1 => (refine cdiv_small ?_ ?_ <;> walk_at "o")))
  | ((with_reducible refine' i_sl_to ?h1 ?h2 ?_); (case h1 => walk_at "o"); (case h2 => walk_at "o"))
  | ((with_reducible refine' i_sl_from ?h1 ?h2 ?_); (case h1 => walk_at "o"); (case h2 => walk_at "o"))
  | ((with_reducible refine' i_add_str ?h1 ?_); (case h1 => walk_at "o"))
  | ((with_reducible refine' i_mul_int ?h1 ?_); (case h1 => first | (refine mul_small ?_ ?_ <;> walk_at "o") | (refine mul_smallR ?_ ?_ <;> walk_at "o")))
  | (with_reducible refine i_le ?_)
  | (with_reducible refine i_gt ?_)
  | (with_reducible refine i_ge ?_)
  | (with_reducible refine i_eq_int ?_)
  | (with_reducible refine i_eq_str ?_)
  | (with_reducible refine i_ne_int ?_)
  | (with_reducible refine i_ne_str ?_)
  | (with_reducible refine i_eq_bl ?_)
  | (with_reducible refine i_ne_bl ?_)
  | (with_reducible refine i_in_sg ?_)
  | (with_reducible refine i_notIn_sg ?_)
  | (with_reducible refine i_call ?_)
  | (with_reducible refine i_callS ?_)
  | (with_reducible refine i_sp1 ?_)
  | (with_reducible refine i_sp2 ?_)
  | (with_reducible refine i_sp3 ?_)
  | (with_reducible refine i_sp4 ?_)
  | (with_reducible refine i_sp1' ?_)
  | (with_reducible refine i_sp2' ?_)
  | (with_reducible refine i_sp3' ?_)
  | ((with_reducible refine' i_ix_lst ?h1 ?h2 ?_); (case h1 => walk_at "sq"); (case h2 => first | exact atI_nat rfl | rfl))
  | ((with_reducible refine' i_ix_tup ?h1 ?h2 ?_); (case h1 => walk_at "st"); (case h2 => first | exact atI_nat rfl | rfl))
  | (with_reducible refine i_gsub ?_)
  | (with_reducible refine i_par ?_)
  | (with_reducible refine i_lstRg1 ?_)
  | (with_reducible refine i_app ?_)
  | (with_reducible refine i_par2 ?_)
  | ((with_reducible refine' i_aug ?h1 ?_); (case h1 => rfl))
  | (with_reducible refine i_ipI ?_)
  | ((with_reducible refine' i_gtup2 ?h1 ?_); (case h1 => walk_at "st"))
  | (with_reducible refine i_int_bl ?_)
  | (with_reducible refine i_raise ?_)
  | (with_reducible refine i_mkE ?_)
  | (with_reducible refine i_ex1 ?_)
  | (with_reducible refine i_and ?_)
  | (with_reducible refine i_or ?_)
  | (with_reducible refine i_not ?_)
  | (with_reducible refine i_tt ?_)
  | (with_reducible refine i_ff ?_)
  | (with_reducible refine i_nott ?_)
  | (with_reducible refine i_notf ?_)
  | (with_reducible refine i_andV ?_)
  | (with_reducible refine i_orV ?_)
  | (with_reducible refine i_notV ?_)
  | (with_reducible refine i_ifE ?_)
  | (with_reducible refine i_tup ?_)
  | (with_reducible refine i_lst ?_)
  | (with_reducible refine i_un ?_)
  | (with_reducible refine i_neg ?_)
  | (with_reducible refine i_chain ?_)
  | (with_reducible refine i_next ?_)
  | (with_reducible refine i_retN ?_)
  | (with_reducible refine i_drop ?_)
  | (with_reducible refine i_int_int ?_)
  | (with_reducible refine i_abs ?_)
  | (with_reducible refine i_m1c ?_)
  | (with_reducible refine i_is_non ?_)
  | (with_reducible refine i_is_int ?_)
  | (with_reducible refine i_is_bl ?_)
  | (with_reducible refine i_isn_bl ?_)
  | (with_reducible refine i_is_str ?_)
  | (with_reducible refine i_is_ref ?_)
  | (with_reducible refine i_isn_non ?_)
  | (with_reducible refine i_isn_int ?_)
  | (with_reducible refine i_isn_str ?_)
  | (with_reducible refine i_isn_ref ?_)
  | (with_reducible refine i_len_str ?h1 ?_; (case h1 => walk_at "o"))
  | (with_reducible refine i_callD ?_)
  | (with_reducible refine i_spD2 ?_)
  | (with_reducible refine i_spM1 ?_)
  | (with_reducible refine i_spM2 ?_)
  | (with_reducible refine i_spM3 ?_)
  | (with_reducible refine i_spM4 ?_)
  | (with_reducible refine i_spM3d ?_)
  | (with_reducible refine i_tfld ?_)
  | (with_reducible refine i_sfld ?_)
  | (with_reducible refine i_meth ?_)
  | (with_reducible refine i_make ?_)
  | (with_reducible refine i_spl ?_)
  | (with_reducible refine i_mkE2 ?_)
  | (with_reducible refine i_ex2 ?_)
  | (with_reducible refine i_dget ?_)
  | (with_reducible refine i_tru ?_)
  | (with_reducible refine i_dput ?_)
  | (with_reducible refine i_dnotin ?_)
  | (with_reducible refine i_din ?_)
  | (with_reducible refine i_rev ?_)
  | (with_reducible refine i_isi_int_int ?_) | (with_reducible refine i_isi_int_bool ?_) | (with_reducible refine i_isi_int_str ?_) | (with_reducible refine i_isi_int_tuple ?_) | (with_reducible refine i_isi_int_list ?_)
  | (with_reducible refine i_isi_bl_int ?_) | (with_reducible refine i_isi_bl_bool ?_) | (with_reducible refine i_isi_bl_str ?_) | (with_reducible refine i_isi_bl_tuple ?_) | (with_reducible refine i_isi_bl_list ?_)
  | (with_reducible refine i_isi_str_int ?_) | (with_reducible refine i_isi_str_bool ?_) | (with_reducible refine i_isi_str_str ?_) | (with_reducible refine i_isi_str_tuple ?_) | (with_reducible refine i_isi_str_list ?_)
  | (with_reducible refine i_isi_non_int ?_) | (with_reducible refine i_isi_non_bool ?_) | (with_reducible refine i_isi_non_str ?_) | (with_reducible refine i_isi_non_tuple ?_) | (with_reducible refine i_isi_non_list ?_))
local macro_rules | `(tactic| walk_at "go") => `(tactic| (repeat' (walk_at "s")))
local macro_rules | `(tactic| walk_at "n") => `(tactic| simp only [wipe, List.map_cons, List.map_nil, List.set_cons_zero, List.set_cons_succ])
def PW (i : Nat) : Int := [1, 2, 4, 8].getD i 1
def sgOf (k : Int) : List Nat := ((List.range 4).filter fun i => decide ((k / PW i) % 2 = 1)).map fun i => SG.getD i 0
theorem sgOf_ok : ∀ n < 16, 1 ≤ n → sgsL (sgOf ((n : Nat) : Int)) = true ∧ (sgOf ((n : Nat) : Int)).length ≤ 4 ∧ ∀ c ∈ sgOf ((n : Nat) : Int), c < 256 := by decide +kernel
def GoodS (l : List Nat) : Prop := sgsL l = true ∧ l.length ≤ 4 ∧ ∀ c ∈ l, c < 256
/-- a drawn line, of m lines -/
def OdF (m : Nat) : Od → Prop
  | .wait s n => GoodS s ∧ 1 ≤ n ∧ n ≤ 9
  | .count s t n => GoodS s ∧ GoodS t ∧ 1 ≤ n ∧ n ≤ 9
  | .pass n => 1 ≤ n ∧ n ≤ 9
  | .more n l => 1 ≤ n ∧ n ≤ 9 ∧ l < m
  | .last s l => GoodS s ∧ l < m
  | .go l => l < m
  | .name w => w ∈ wordsN
  | .skip => True
def OdAll (H : Hp) (xs : List V) (os : List Od) : Prop := xs.length = os.length ∧ ∀ (i : Nat) (o : Od), os[i]? = some o → ∃ a, xs[i]? = some (.ref a) ∧ H a = some (.tup (odV o))
theorem OdAll.same {H H' : Hp} {xs : List V} {os : List Od} (h : OdAll H xs os) (s : Same H H') : OdAll H' xs os := by
  refine ⟨h.1, fun i o e => ?_⟩
  obtain ⟨a, e1, e2⟩ := h.2 i o e
  exact ⟨a, e1, s _ _ e2⟩
theorem OdAll.app {H : Hp} {xs : List V} {os : List Od} {a : Addr} {o : Od} (h : OdAll H xs os) (e : H a = some (.tup (odV o))) : OdAll H (xs ++ [.ref a]) (os ++ [o]) := by
  refine ⟨by rw [List.length_append, List.length_append, h.1]; rfl, fun i o' e' => ?_⟩
  rcases Nat.lt_or_ge i os.length with hi | hi
  · rw [List.getElem?_append_left hi] at e'
    obtain ⟨b, e1, e2⟩ := h.2 i o' e'
    exact ⟨b, by rw [List.getElem?_append_left (by rw [h.1]; exact hi)]; exact e1, e2⟩
  · have hlt := (List.getElem?_eq_some_iff.mp e').1
    rw [List.length_append, List.length_singleton] at hlt
    obtain rfl : i = os.length := by omega
    rw [List.getElem?_append_right (Nat.le_refl _), Nat.sub_self] at e'
    cases e'
    exact ⟨a, by rw [List.getElem?_append_right (by rw [h.1]; exact Nat.le_refl _), h.1, Nat.sub_self]; rfl, e⟩
theorem OdAll.set {H : Hp} {xs : List V} {os : List Od} {a : Addr} {o : Od} {j : Nat} (h : OdAll H xs os) (e : H a = some (.tup (odV o))) : OdAll H (xs.set j (.ref a)) (os.set j o) := by
  refine ⟨by rw [List.length_set, List.length_set, h.1], fun i o' e' => ?_⟩
  rw [List.getElem?_set] at e' ⊢
  by_cases hj : j = i
  · rw [if_pos hj] at e' ⊢
    split at e'
    · cases e'
      rename_i hlt
      exact ⟨a, by rw [if_pos (by rw [h.1]; exact hlt)], e⟩
    · cases e'
  · rw [if_neg hj] at e' ⊢
    exact h.2 i o' e'
/-- the list of lines that is being made -/
structure LS (K : PySem.W.Frag) (d : Dd) (Hk : Hp) (t : Addr) (m : Nat) (G : Hp) (os : List Od) : Prop where
  ex : ∃ Hk' xs, Same Hk Hk' ∧ Hk' t = none ∧ Dr K d (upd Hk' t (.lst xs)) G ∧ SqL K Hk d.c (d.ns.map V.int) ∧ OdAll Hk' xs os ∧ ∀ o ∈ os, OdF m o
section
variable {K : PySem.W.Frag} {d : Dd} {Hk G : Hp} {t : Addr} {m : Nat} {os : List Od}
theorem LS.op (h : LS K d Hk t m G os) : ∃ N xs, Same Hk N ∧ N t = some (.lst xs) ∧ xs.length = os.length ∧ Dr K d N G ∧ (∀ G2, Dr K d N G2 → LS K d Hk t m G2 os) ∧
    (∀ G2 a o, N a = none → Dr K d (upd N a (.tup (odV o))) G2 → OdF m o → G2 t = some (.lst xs) ∧ LS K d Hk t m (upd G2 t (.lst (xs ++ [.ref a]))) (os ++ [o]) ∧ ∀ j, LS K d Hk t m (upd G2 t (.lst (xs.set j (.ref a)))) (os.set j o)) := by
  obtain ⟨Hk', xs, s, n, dr, c, al, f⟩ := h.ex
  refine ⟨upd Hk' t (.lst xs), xs, s.trans (same_upd n), upd_same, al.1, dr, fun G2 d2 => ⟨Hk', xs, s, n, d2, c, al, f⟩, fun G2 a o na d2 fo => ?_⟩
  have at_ : a ≠ t := fun z => by rw [z, upd_same] at na; cases na
  rw [upd_ne at_] at na
  have ht := d2.old ((upd_ne at_.symm).trans upd_same)
  rw [upd_comm at_.symm] at d2
  have s2 : Same Hk' (upd Hk' a (.tup (odV o))) := same_upd na
  have n2 : (upd Hk' a (.tup (odV o))) t = none := (upd_ne at_.symm).trans n
  have al2 := al.same s2
  have c2 := (s.trans s2).seq c
  refine ⟨ht, ⟨_, _, s.trans s2, n2, d2.put c2 n2, c, al2.app upd_same, fun x hx => ?_⟩, fun j => ⟨_, _, s.trans s2, n2, d2.put c2 n2, c, al2.set upd_same, fun x hx => ?_⟩⟩
  · rcases List.mem_append.mp hx with hx | hx
    · exact f x hx
    · rw [List.mem_singleton.mp hx]; exact fo
  · rcases List.mem_or_eq_of_mem_set hx with hx | hx
    · exact f x hx
    · rw [hx]; exact fo
theorem LS.new (dr : Dr K d Hk G) (n : G t = none) : LS K d Hk t m (upd G t (.lst [])) [] :=
  ⟨Hk, [], Same.refl _, dr.free n, dr.new n, dr.cells, ⟨rfl, fun i o h => by simp at h⟩, fun o h => absurd h (by simp)⟩
end
section
variable {P : Program} {w : World} {K : PySem.W.Frag} {mg : Str → Option Value} {base : Heap} {C_GlimError C_BadRow C_BadReader C_Reader : Addr}
def p_L_signs (K : PySem.W.Frag) : P1 := fun x H Q _ => ∃ Hk dd, x = .ref dd.a ∧ Dr K dd Hk H ∧ ∀ l H', Dr K dd Hk H' → GoodS l → Q (S l) H'
theorem ok_L_signs (T : Txt K mg C_GlimError C_BadRow C_BadReader C_Reader) : OK P w K mg base CX0 3 "_law_signs" ["_law_draw_here"] (sp1  (p_L_signs K)) := by
  refine OK.mk (k := 2) T.d_L_signs sc_L_signs len1 fun f cdv A outer s H vs Q E hr h => ?_
  obtain ⟨x, rfl, h⟩ := h
  refine ⟨_, (pss_cons (ps_set (i := 1) sc_L_signs.nd rfl (Or.inl rfl) (pe_f (ok_L_pick (K := K) T) (hr.mono (by decide)) pass0 (pa_cons (pv 0) (pa_cons pe_int pa_nil)))) (pss_cons (ps_if (pt_cmpR (opEq K hr.units) (pv 1) pe_int (nomark _)) (pss_one (ps_ret (pe_S [46]))) pss_nil) (pss_cons (ps_if (pt_cmpR (opEq K hr.units) (pv 1) pe_int (nomark _)) (pss_one (ps_ret (pe_S [103, 114, 119]))) pss_nil) (pss_cons (ps_set (i := 2) sc_L_signs.nd rfl (Or.inr rfl) (pe_op (opAdd K) pe_int (pe_f (ok_L_pick (K := K) T) (hr.mono (by decide)) pass0 (pa_cons (pv 0) (pa_cons pe_int pa_nil))))) (pss_one (ps_ret (peJoin K (pe_S []) (pe_lc (own := [("_law_place", 3)]) (g := gName 3) (by rfl) sc_L_signs.nd (pi_range1 rfl T.b_range (pa_cons pe_int pa_nil)) (blkOk_by (own := [("_law_place", 3)]) (N := ["_law_draw_here", "_law_kind", "_law_number", "_law_place"]) (sc := (defScope s_L_signs)) (by decide +kernel)) (fun _ _ _ _ _ => (pg_name (i := 3) sc_L_signs.nd rfl (Or.inl rfl))) (fun _ _ _ _ _ => (pts_one (pt_cmpR (opEq K hr.units) (pe_op op_modP (pe_callTy call_intP (by rfl) T.b_int (by decide +kernel) (pa_cons (pe_op op_fdivP (pv 2) (pe_ix (ixK K) (pe_lst (pa_cons pe_int (pa_cons pe_int (pa_cons pe_int (pa_cons pe_int pa_nil))))) (pv 3) (fun _ _ => rfl))) pa_nil)) pe_int) pe_int (nomark _)))) (fun _ _ _ _ _ => (pe_ix (ixK K) (pe_S [46, 103, 114, 119]) (pv 3) (fun _ _ => rfl))))))))))), ?_⟩
  show (_ : TS) { nx := fun _ H' => Q .non H', rt := Q } [some x, none, none, none] H
  obtain ⟨Hk, dd, rfl, dr, q⟩ := h
  walk_at "go"
  refine ⟨Hk, dd, 4, rfl, rfl, dr, by decide, fun k G1 d1 bk => ?_⟩
  walk_at "go"
  refine i_dec (fun e => ?_) (fun e => ?_)
  · walk_at "go"
    exact q _ _ d1 ⟨by decide, by decide, by decide⟩
  walk_at "go"
  refine i_dec (fun e2 => ?_) (fun e2 => ?_)
  · walk_at "go"
    exact q _ _ d1 ⟨by decide, by decide, by decide⟩
  walk_at "go"
  refine ⟨Hk, dd, 15, rfl, rfl, d1, by decide, fun n G2 d2 bn => ?_⟩
  have n0 := bn.1
  have n15 := bn.2.1 (by decide)
  walk_at "go"
  refine c_rng1 4 (fun R k => by walk_at "go"; exact k) (by decide) (fun i => decide (((1 + n) / PW i) % 2 = 1)) (fun i => S [SG.getD i 0]) (fun _ => rfl) (fun i H3 hi s3 QB k_1 => ?_) (fun i H3 hi s3 _ QV k_1 => ?_) (fun Dl H3 n3 s3 d3 => ?_)
  · show (_ : TT) [some (.ref dd.a), some (.int k), some (.int (1 + n)), some (.int (i : Int))] H3 QB
    have hi' : i = 0 ∨ i = 1 ∨ i = 2 ∨ i = 3 := by omega
    walk_at "go"
    refine i_new (by show 4 ≤ 100000; omega) fun t nt => ?_
    walk_at "go"
    rcases hi' with rfl | rfl | rfl | rfl
    · refine i_ix_lst (v := .int 1) (.inl (.inl upd_same)) rfl ?_
      walk_at "go"
      exact k_1 _ (same_upd nt)
    · refine i_ix_lst (v := .int 2) (.inl (.inl upd_same)) rfl ?_
      walk_at "go"
      exact k_1 _ (same_upd nt)
    · refine i_ix_lst (v := .int 4) (.inl (.inl upd_same)) rfl ?_
      walk_at "go"
      exact k_1 _ (same_upd nt)
    · refine i_ix_lst (v := .int 8) (.inl (.inl upd_same)) rfl ?_
      walk_at "go"
      exact k_1 _ (same_upd nt)
  · show (_ : TE) [some (.ref dd.a), some (.int k), some (.int (1 + n)), some (.int (i : Int))] H3 QV
    have hc : SG[i]? = some (SG.getD i 0) := by rw [List.getD_eq_getElem?_getD, List.getElem?_eq_getElem (show i < SG.length from hi)]; rfl
    walk_at "go"
    refine i_ix_str (l := SG) (by decide) (by omega) (by rw [Int.toNat_natCast]; exact hc) ?_
    exact k_1 H3 (Same.refl H3)
  · obtain ⟨m, rfl⟩ := Int.eq_ofNat_of_zero_le n0
    have e1 : (1 : Int) + (m : Int) = ((m + 1 : Nat) : Int) := by omega
    have ek : kept (fun i => decide (((1 + (m : Int)) / PW i) % 2 = 1)) (fun i => S [SG.getD i 0]) 4 = (sgOf ((m + 1 : Nat) : Int)).map fun c => S [c] := by
      unfold kept sgOf
      rw [e1, List.map_map]; rfl
    rw [ek] at d3
    have g := sgOf_ok (m + 1) (by omega) (by omega)
    walk_at "go"
    refine i_join1 (.inl (.inl d3)) (by have := g.2.1; omega) ?_
    exact q _ _ (d2.same s3) g
def p_L_order (K : PySem.W.Frag) : P4 := fun x y z u H Q _ => ∃ Hk dd, ∃ m : Nat, ∃ nl n1 n2, ∃ top : Nat, x = .ref dd.a ∧ y = .int (m : Int) ∧ z = .ref nl ∧ u = .int (top : Int) ∧ 1 ≤ m ∧ m ≤ 21 ∧ 1 ≤ top ∧ top ≤ 9 ∧ Dr K dd Hk H ∧ Hk nl = some (.lst ([n1, n2].map S)) ∧ n1 ∈ wordsN ∧ n2 ∈ wordsN ∧
  ∀ a o H', Hk a = none → Dr K dd (upd Hk a (.tup (odV o))) H' → OdF m o → Q (.ref a) H'
theorem to_nat {n : Int} {t : Nat} (b : Btw n t) (h : 1 ≤ t) : ∃ k : Nat, n = (k : Int) ∧ k < t := by
  obtain ⟨k, rfl⟩ := Int.eq_ofNat_of_zero_le b.1
  refine ⟨k, rfl, ?_⟩
  by_cases z : 2 ≤ (t : Int)
  · have := b.2.1 z; omega
  · have := b.2.2 (by omega); omega
theorem one_add (k : Nat) : (1 : Int) + (k : Int) = ((1 + k : Nat) : Int) := by omega
theorem two_names {n1 n2 : List Nat} {n : Int} (w1 : n1 ∈ wordsN) (w2 : n2 ∈ wordsN) (bn : Btw n 2) : ∃ w, atI ([n1, n2].map S) n = some (S w) ∧ w ∈ wordsN := by
  have h0 := bn.1
  have h1 := bn.2.1 (by decide)
  have : n = 0 ∨ n = 1 := by omega
  rcases this with rfl | rfl
  · exact ⟨n1, rfl, w1⟩
  · exact ⟨n2, rfl, w2⟩
theorem ok_L_order (T : Txt K mg C_GlimError C_BadRow C_BadReader C_Reader) : OK P w K mg base CX0 4 "_law_order" ["_law_draw_here", "_law_many", "_law_names_here", "_law_top"] (sp4  (p_L_order K)) := by
  refine OK.mk (k := 3) T.d_L_order sc_L_order len4 fun f cdv A outer s H vs Q E hr h => ?_
  obtain ⟨x, y, z, u, rfl, h⟩ := h
  refine ⟨_, (pss_cons (ps_set (i := 4) sc_L_order.nd rfl (Or.inl rfl) (pe_f (ok_L_pick (K := K) T) (hr.mono (by decide)) pass0 (pa_cons (pv 0) (pa_cons pe_int pa_nil)))) (pss_cons (ps_if (pt_cmpR op_ltP (pv 4) pe_int (nomark _)) (pss_one (ps_ret (pe_tup (pa_cons (pe_S [119, 97, 105, 116]) (pa_cons (pe_f (ok_L_signs (K := K) T) (hr.mono (by decide)) pass0 (pa_cons (pv 0) pa_nil)) (pa_cons (pe_op (opAdd K) pe_int (pe_f (ok_L_pick (K := K) T) (hr.mono (by decide)) pass0 (pa_cons (pv 0) (pa_cons (pv 3) pa_nil)))) pa_nil)))))) pss_nil) (pss_cons (ps_if (pt_cmpR op_ltP (pv 4) pe_int (nomark _)) (pss_one (ps_ret (pe_tup (pa_cons (pe_S [99, 111, 117, 110, 116]) (pa_cons (pe_f (ok_L_signs (K := K) T) (hr.mono (by decide)) pass0 (pa_cons (pv 0) pa_nil)) (pa_cons (pe_f (ok_L_signs (K := K) T) (hr.mono (by decide)) pass0 (pa_cons (pv 0) pa_nil)) (pa_cons (pe_op (opAdd K) pe_int (pe_f (ok_L_pick (K := K) T) (hr.mono (by decide)) pass0 (pa_cons (pv 0) (pa_cons (pv 3) pa_nil)))) pa_nil))))))) pss_nil) (pss_cons (ps_if (pt_cmpR (opEq K hr.units) (pv 4) pe_int (nomark _)) (pss_one (ps_ret (pe_tup (pa_cons (pe_S [112, 97, 115, 115]) (pa_cons (pe_op (opAdd K) pe_int (pe_f (ok_L_pick (K := K) T) (hr.mono (by decide)) pass0 (pa_cons (pv 0) (pa_cons (pv 3) pa_nil)))) pa_nil))))) pss_nil) (pss_cons (ps_if (pt_cmpR (opEq K hr.units) (pv 4) pe_int (nomark _)) (pss_one (ps_ret (pe_tup (pa_cons (pe_S [109, 111, 114, 101]) (pa_cons (pe_op (opAdd K) pe_int (pe_f (ok_L_pick (K := K) T) (hr.mono (by decide)) pass0 (pa_cons (pv 0) (pa_cons (pv 3) pa_nil)))) (pa_cons (pe_f (ok_L_pick (K := K) T) (hr.mono (by decide)) pass0 (pa_cons (pv 0) (pa_cons (pv 1) pa_nil))) pa_nil)))))) pss_nil) (pss_cons (ps_if (pt_cmpR (opEq K hr.units) (pv 4) pe_int (nomark _)) (pss_one (ps_ret (pe_tup (pa_cons (pe_S [108, 97, 115, 116]) (pa_cons (pe_f (ok_L_signs (K := K) T) (hr.mono (by decide)) pass0 (pa_cons (pv 0) pa_nil)) (pa_cons (pe_f (ok_L_pick (K := K) T) (hr.mono (by decide)) pass0 (pa_cons (pv 0) (pa_cons (pv 1) pa_nil))) pa_nil)))))) pss_nil) (pss_cons (ps_if (pt_cmpR (opEq K hr.units) (pv 4) pe_int (nomark _)) (pss_one (ps_ret (pe_tup (pa_cons (pe_S [103, 111]) (pa_cons (pe_f (ok_L_pick (K := K) T) (hr.mono (by decide)) pass0 (pa_cons (pv 0) (pa_cons (pv 1) pa_nil))) pa_nil))))) pss_nil) (pss_cons (ps_if (pt_cmpR op_ltP (pv 4) pe_int (nomark _)) (pss_one (ps_ret (pe_tup (pa_cons (pe_S [110, 97, 109, 101]) (pa_cons (pe_ix (ixK K) (pv 2) (pe_f (ok_L_pick (K := K) T) (hr.mono (by decide)) pass0 (pa_cons (pv 0) (pa_cons (pe_callB (cLen K) (by rfl) T.b_len (by decide +kernel) (pa_cons (pv 2) pa_nil)) pa_nil))) (fun _ _ => rfl)) pa_nil))))) pss_nil) (pss_one (ps_ret (pe_tup (pa_cons (pe_S [115, 107, 105, 112]) pa_nil)))))))))))), ?_⟩
  show (_ : TS) { nx := fun _ H' => Q .non H', rt := Q } [some x, some y, some z, some u, none] H
  obtain ⟨Hk, dd, m, nl, n1, n2, top, rfl, rfl, rfl, rfl, m1, m2, t1, t2, dr, hn, w1, w2, q⟩ := h
  have fin : ∀ {G : Hp} (o : Od), Dr K dd Hk G → OdF m o → ∀ a, G a = none → Q (.ref a) (upd G a (.tup (odV o))) := fun o d f a na => q a o _ (d.free na) (d.new na) f
  walk_at "go"
  refine ⟨Hk, dd, 11, rfl, rfl, dr, by decide, fun k H1 d1 bk => ?_⟩
  have k0 := bk.1
  have k11 := bk.2.1 (by decide)
  walk_at "go"
  refine i_dec (fun e0 => ?_) (fun e0 => ?_)
  · walk_at "go"
    refine ⟨Hk, dd, rfl, d1, fun l H2 d2 gl => ?_⟩
    walk_at "go"
    refine ⟨Hk, dd, top, rfl, rfl, d2, by omega, fun n H3 d3 bn => ?_⟩
    obtain ⟨n, rfl, hn9⟩ := to_nat bn t1
    walk_at "go"
    rw [one_add]
    refine i_new (by show 3 ≤ 100000; omega) (fin (.wait l (1 + n)) d3 ⟨gl, by omega, by omega⟩)
  walk_at "go"
  refine i_dec (fun e1 => ?_) (fun e1 => ?_)
  · walk_at "go"
    refine ⟨Hk, dd, rfl, d1, fun l H2 d2 gl => ?_⟩
    walk_at "go"
    refine ⟨Hk, dd, rfl, d2, fun l2 H3 d3 gl2 => ?_⟩
    walk_at "go"
    refine ⟨Hk, dd, top, rfl, rfl, d3, by omega, fun n H4 d4 bn => ?_⟩
    obtain ⟨n, rfl, hn9⟩ := to_nat bn t1
    walk_at "go"
    rw [one_add]
    refine i_new (by show 4 ≤ 100000; omega) (fin (.count l l2 (1 + n)) d4 ⟨gl, gl2, by omega, by omega⟩)
  walk_at "go"
  refine i_dec (fun e2 => ?_) (fun e2 => ?_)
  · walk_at "go"
    refine ⟨Hk, dd, top, rfl, rfl, d1, by omega, fun n H4 d4 bn => ?_⟩
    obtain ⟨n, rfl, hn9⟩ := to_nat bn t1
    walk_at "go"
    rw [one_add]
    refine i_new (by show 2 ≤ 100000; omega) (fin (.pass (1 + n)) d4 ⟨by omega, by omega⟩)
  walk_at "go"
  refine i_dec (fun e3 => ?_) (fun e3 => ?_)
  · walk_at "go"
    refine ⟨Hk, dd, top, rfl, rfl, d1, by omega, fun n H4 d4 bn => ?_⟩
    obtain ⟨n, rfl, hn9⟩ := to_nat bn t1
    walk_at "go"
    refine ⟨Hk, dd, m, rfl, rfl, d4, by omega, fun n2 H5 d5 bn2 => ?_⟩
    obtain ⟨n2, rfl, hn2⟩ := to_nat bn2 m1
    walk_at "go"
    rw [one_add]
    refine i_new (by show 3 ≤ 100000; omega) (fin (.more (1 + n) n2) d5 ⟨by omega, by omega, hn2⟩)
  walk_at "go"
  refine i_dec (fun e4 => ?_) (fun e4 => ?_)
  · walk_at "go"
    refine ⟨Hk, dd, rfl, d1, fun l H2 d2 gl => ?_⟩
    walk_at "go"
    refine ⟨Hk, dd, m, rfl, rfl, d2, by omega, fun n2 H5 d5 bn2 => ?_⟩
    obtain ⟨n2, rfl, hn2⟩ := to_nat bn2 m1
    walk_at "go"
    refine i_new (by show 3 ≤ 100000; omega) (fin (.last l n2) d5 ⟨gl, hn2⟩)
  walk_at "go"
  refine i_dec (fun e5 => ?_) (fun e5 => ?_)
  · walk_at "go"
    refine ⟨Hk, dd, m, rfl, rfl, d1, by omega, fun n2 H5 d5 bn2 => ?_⟩
    obtain ⟨n2, rfl, hn2⟩ := to_nat bn2 m1
    walk_at "go"
    refine i_new (by show 2 ≤ 100000; omega) (fin (.go n2) d5 hn2)
  walk_at "go"
  refine i_dec (fun e6 => ?_) (fun e6 => ?_)
  · walk_at "go"
    refine i_len_lst (.inl (.inl (d1.old hn))) ?_
    walk_at "go"
    refine ⟨Hk, dd, 2, rfl, rfl, d1, by decide, fun n H5 d5 bn => ?_⟩
    obtain ⟨w', hw, gw⟩ := two_names w1 w2 bn
    refine i_ix_lst (.inl (.inl (d5.old hn))) hw ?_
    walk_at "go"
    refine i_new (by show 2 ≤ 100000; omega) (fin (.name w') d5 gw)
  · walk_at "go"
    refine i_new (by show 1 ≤ 100000; omega) (fin .skip d1 trivial)
end
end K47
namespace K47
open PySem PySem.Spec PyProof.Rows L2 Fg
local macro_rules | `(tactic| walk_at "sq") => `(tactic| first
  | assumption
  | exact .inl (.inl (by assumption))
  | exact .inl (.inl upd_same))
local macro_rules | `(tactic| walk_at "st") => `(tactic| first
  | assumption
  | exact .inl (.inl (by assumption))
  | exact .inl (.inl upd_same))
local macro_rules | `(tactic| walk_at "o") => `(tactic| first
  | omega
  | assumption
  | (simp only [List.length_append, List.length_take, List.length_drop, List.length_cons, List.length_nil, List.length_singleton, List.length_map, List.length_range, Int.toNat_natCast] ; omega))
local macro_rules | `(tactic| walk_at "s") => `(tactic| first
  | (with_reducible refine i_seq ?_)
  | (with_reducible refine i_asg ?_)
  | ((with_reducible refine' i_var ?h1 ?_); (case h1 => rfl))
  | (with_reducible refine i_c ?_)
  | ((with_reducible refine' i_gname' ?h1 ?_); (case h1 => (simp only [List.set_cons_zero, List.set_cons_succ]; rfl)))
  | (with_reducible refine i_op ?_)
  | (with_reducible refine i_ifS ?_)
  | (with_reducible refine i_for ?_)
  | (with_reducible refine i_test ?_)
  | (with_reducible refine i_B ?_)
  | (with_reducible refine i_exbl ?_)
  | (with_reducible refine i_exint ?_)
  | (with_reducible refine i_cb ?_)
  | (with_reducible refine i_nil ?_)
  | (with_reducible refine i_cons ?_)
  | (with_reducible refine i_ret ?_)
  | (with_reducible refine i_sl ?_)
  | (with_reducible refine i_nopart ?_)
  | (with_reducible refine i_part ?_)
  | (with_reducible refine i_add_int ?_)
  | (with_reducible refine i_sub ?_)
  | (with_reducible refine i_lt ?_)
  | ((with_reducible refine' i_mod ?h1 ?_); (case h1 => walk_at "o"))
  | ((with_reducible refine' i_fdiv ?h1 ?_); (case h1 => (refine cdiv_small ?_ ?_ <;> walk_at "o")))
  | ((with_reducible refine' i_sl_to ?h1 ?h2 ?_); (case h1 => walk_at "o"); (case h2 => walk_at "o"))
  | ((with_reducible refine' i_sl_from ?h1 ?h2 ?_); (case h1 => walk_at "o"); (case h2 => walk_at "o"))
  | ((with_reducible refine' i_add_str ?h1 ?_); (case h1 => walk_at "o"))
  | ((with_reducible refine' i_mul_int ?h1 ?_); (case h1 => first | (refine mul_small ?_ ?_ <;> walk_at "o") | (refine mul_smallR ?_ ?_ <;> walk_at "o")))
  | (with_reducible refine i_le ?_)
  | (with_reducible refine i_gt ?_)
  | (with_reducible refine i_ge ?_)
  | (with_reducible refine i_eq_int ?_)
  | (with_reducible refine i_eq_str ?_)
  | (with_reducible refine i_ne_int ?_)
  | (with_reducible refine i_ne_str ?_)
  | (with_reducible refine i_eq_bl ?_)
  | (with_reducible refine i_ne_bl ?_)
  | (with_reducible refine i_in_sg ?_)
  | (with_reducible refine i_notIn_sg ?_)
  | (with_reducible refine i_call ?_)
  | (with_reducible refine i_callS ?_)
  | (with_reducible refine i_sp1 ?_)
  | (with_reducible refine i_sp2 ?_)
  | (with_reducible refine i_sp3 ?_)
  | (with_reducible refine i_sp4 ?_)
  | (with_reducible refine i_sp1' ?_)
  | (with_reducible refine i_sp2' ?_)
  | (with_reducible refine i_sp3' ?_)
  | ((with_reducible refine' i_ix_lst ?h1 ?h2 ?_); (case h1 => walk_at "sq"); (case h2 => first | exact atI_nat rfl | rfl))
  | ((with_reducible refine' i_ix_tup ?h1 ?h2 ?_); (case h1 => walk_at "st"); (case h2 => first | exact atI_nat rfl | rfl))
  | (with_reducible refine i_gsub ?_)
  | (with_reducible refine i_par ?_)
  | (with_reducible refine i_lstRg1 ?_)
  | (with_reducible refine i_app ?_)
  | (with_reducible refine i_par2 ?_)
  | ((with_reducible refine' i_aug ?h1 ?_); (case h1 => rfl))
  | (with_reducible refine i_ipI ?_)
  | ((with_reducible refine' i_gtup2 ?h1 ?_); (case h1 => walk_at "st"))
  | (with_reducible refine i_int_bl ?_)
  | (with_reducible refine i_raise ?_)
  | (with_reducible refine i_mkE ?_)
  | (with_reducible refine i_ex1 ?_)
  | (with_reducible refine i_and ?_)
  | (with_reducible refine i_or ?_)
  | (with_reducible refine i_not ?_)
  | (with_reducible refine i_tt ?_)
  | (with_reducible refine i_ff ?_)
  | (with_reducible refine i_nott ?_)
  | (with_reducible refine i_notf ?_)
  | (with_reducible refine i_andV ?_)
  | (with_reducible refine i_orV ?_)
  | (with_reducible refine i_notV ?_)
  | (with_reducible refine i_ifE ?_)
  | (with_reducible refine i_tup ?_)
  | (with_reducible refine i_lst ?_)
  | (with_reducible refine i_un ?_)
  | (with_reducible refine i_neg ?_)
  | (with_reducible refine i_chain ?_)
  | (with_reducible refine i_next ?_)
  | (with_reducible refine i_retN ?_)
  | (with_reducible refine i_drop ?_)
  | (with_reducible refine i_int_int ?_)
  | (with_reducible refine i_abs ?_)
  | (with_reducible refine i_m1c ?_)
  | (with_reducible refine i_is_non ?_)
  | (with_reducible refine i_is_int ?_)
  | (with_reducible refine i_is_bl ?_)
  | (with_reducible refine i_isn_bl ?_)
  | (with_reducible refine i_is_str ?_)
  | (with_reducible refine i_is_ref ?_)
  | (with_reducible refine i_isn_non ?_)
  | (with_reducible refine i_isn_int ?_)
  | (with_reducible refine i_isn_str ?_)
  | (with_reducible refine i_isn_ref ?_)
  | (with_reducible refine i_len_str ?h1 ?_; (case h1 => walk_at "o"))
  | (with_reducible refine i_callD ?_)
  | (with_reducible refine i_spD2 ?_)
  | (with_reducible refine i_spM1 ?_)
  | (with_reducible refine i_spM2 ?_)
  | (with_reducible refine i_spM3 ?_)
  | (with_reducible refine i_spM4 ?_)
  | (with_reducible refine i_spM3d ?_)
  | (with_reducible refine i_tfld ?_)
  | (with_reducible refine i_sfld ?_)
  | (with_reducible refine i_meth ?_)
  | (with_reducible refine i_make ?_)
  | (with_reducible refine i_spl ?_)
  | (with_reducible refine i_mkE2 ?_)
  | (with_reducible refine i_ex2 ?_)
  | (with_reducible refine i_dget ?_)
  | (with_reducible refine i_tru ?_)
  | (with_reducible refine i_dput ?_)
  | (with_reducible refine i_dnotin ?_)
  | (with_reducible refine i_din ?_)
  | (with_reducible refine i_rev ?_)
  | (with_reducible refine i_isi_int_int ?_) | (with_reducible refine i_isi_int_bool ?_) | (with_reducible refine i_isi_int_str ?_) | (with_reducible refine i_isi_int_tuple ?_) | (with_reducible refine i_isi_int_list ?_)
  | (with_reducible refine i_isi_bl_int ?_) | (with_reducible refine i_isi_bl_bool ?_) | (with_reducible refine i_isi_bl_str ?_) | (with_reducible refine i_isi_bl_tuple ?_) | (with_reducible refine i_isi_bl_list ?_)
  | (with_reducible refine i_isi_str_int ?_) | (with_reducible refine i_isi_str_bool ?_) | (with_reducible refine i_isi_str_str ?_) | (with_reducible refine i_isi_str_tuple ?_) | (with_reducible refine i_isi_str_list ?_)
  | (with_reducible refine i_isi_non_int ?_) | (with_reducible refine i_isi_non_bool ?_) | (with_reducible refine i_isi_non_str ?_) | (with_reducible refine i_isi_non_tuple ?_) | (with_reducible refine i_isi_non_list ?_))
local macro_rules | `(tactic| walk_at "go") => `(tactic| (repeat' (walk_at "s")))
local macro_rules | `(tactic| walk_at "n") => `(tactic| simp only [wipe, List.map_cons, List.map_nil, List.set_cons_zero, List.set_cons_succ])
section
variable {K : PySem.W.Frag} {d : Dd} {Hk G : Hp} {t : Addr} {m : Nat} {os : List Od}
theorem LS.one {a : Addr} {o : Od} (dr : Dr K d Hk G) (na : G a = none) (nt : (upd G a (.tup (odV o))) t = none) (f : OdF m o) : LS K d Hk t m (upd (upd G a (.tup (odV o))) t (.lst [.ref a])) [o] := by
  have d1 := dr.new (o := .tup (odV o)) na
  refine ⟨upd Hk a (.tup (odV o)), [.ref a], same_upd (dr.free na), d1.free nt, d1.new nt, dr.cells, ⟨rfl, fun i o' h => ?_⟩, fun x hx => by rw [List.mem_singleton.mp hx]; exact f⟩
  match i, h with
  | 0, h => cases h; exact ⟨a, rfl, upd_same⟩
  | i + 1, h => simp at h
theorem LS.cl (h : LS K d Hk t m G os) : ∃ Hk' xs, Same Hk Hk' ∧ Dr K d Hk' G ∧ Hk' t = some (.lst xs) ∧ OdAll Hk' xs os ∧ ∀ o ∈ os, OdF m o := by
  obtain ⟨Hk', xs, s, n, dr, c, al, f⟩ := h.ex
  exact ⟨_, xs, s.trans (same_upd n), dr, upd_same, al.same (same_upd n), f⟩
end
section
variable {P : Program} {w : World} {K : PySem.W.Frag} {mg : Str → Option Value} {base : Heap} {C_GlimError C_BadRow C_BadReader C_Reader : Addr}
def p_L_lines (K : PySem.W.Frag) : P4 := fun x y z u H Q _ => ∃ Hk dd, ∃ most : Nat, ∃ nl n1 n2, ∃ top : Nat, x = .ref dd.a ∧ y = .int (most : Int) ∧ z = .ref nl ∧ u = .int (top : Int) ∧ 1 ≤ most ∧ most ≤ 20 ∧ 1 ≤ top ∧ top ≤ 9 ∧ Dr K dd Hk H ∧ Hk nl = some (.lst ([n1, n2].map S)) ∧ n1 ∈ wordsN ∧ n2 ∈ wordsN ∧
  ∀ t Hk' xs os H', Same Hk Hk' → Dr K dd Hk' H' → Hk' t = some (.lst xs) → OdAll Hk' xs os → (∀ o ∈ os, OdF os.length o) → 1 ≤ os.length → os.length ≤ 20 → Q (.ref t) H'
theorem ok_L_lines (T : Txt K mg C_GlimError C_BadRow C_BadReader C_Reader) : OK P w K mg base CX0 5 "_law_lines" ["_law_draw_here", "_law_most", "_law_names_here", "_law_top"] (sp4  (p_L_lines K)) := by
  refine OK.mk (k := 4) T.d_L_lines sc_L_lines len4 fun f cdv A outer s H vs Q E hr h => ?_
  obtain ⟨x, y, z, u, rfl, h⟩ := h
  refine ⟨_, (Evl.pss_cut (ps_if (pw_and (pt_cmpR op_gtP (pv 1) pe_int (nomark _)) (pw_and1 (pt_cmpR (opEq K hr.units) (pe_f (ok_L_pick (K := K) T) (hr.mono (by decide)) pass0 (pa_cons (pv 0) (pa_cons pe_int pa_nil))) pe_int (nomark _)))).pt (pss_cons (ps_set (i := 4) sc_L_lines.nd rfl (Or.inl rfl) (pe_lst (pa_cons (pe_tup (pa_cons (pe_S [119, 97, 105, 116]) (pa_cons (pe_f (ok_L_signs (K := K) T) (hr.mono (by decide)) pass0 (pa_cons (pv 0) pa_nil)) (pa_cons (pe_op (opAdd K) pe_int (pe_f (ok_L_pick (K := K) T) (hr.mono (by decide)) pass0 (pa_cons (pv 0) (pa_cons (pv 3) pa_nil)))) pa_nil)))) pa_nil))) (pss_cons (ps_expr (peApp K (pv 4) (pa_cons (pe_tup (pa_cons (pe_S [99, 111, 117, 110, 116]) (pa_cons (pe_f (ok_L_signs (K := K) T) (hr.mono (by decide)) pass0 (pa_cons (pv 0) pa_nil)) (pa_cons (pe_f (ok_L_signs (K := K) T) (hr.mono (by decide)) pass0 (pa_cons (pv 0) pa_nil)) (pa_cons (pe_op (opAdd K) pe_int (pe_f (ok_L_pick (K := K) T) (hr.mono (by decide)) pass0 (pa_cons (pv 0) (pa_cons (pv 3) pa_nil)))) pa_nil))))) pa_nil))) (pss_cons (ps_expr (peApp K (pv 4) (pa_cons (pe_tup (pa_cons (pe_S [109, 111, 114, 101]) (pa_cons (pe_op (opAdd K) pe_int (pe_f (ok_L_pick (K := K) T) (hr.mono (by decide)) pass0 (pa_cons (pv 0) (pa_cons (pv 3) pa_nil)))) (pa_cons pe_int pa_nil)))) pa_nil))) (Evl.pss_cut (ps_if (pt_cmpR (opEq K hr.units) (pe_f (ok_L_pick (K := K) T) (hr.mono (by decide)) pass0 (pa_cons (pv 0) (pa_cons pe_int pa_nil))) pe_int (nomark _)) (pss_one (ps_expr (peApp K (pv 4) (pa_cons (pe_tup (pa_cons (pe_S [109, 111, 114, 101]) (pa_cons (pe_op (opAdd K) pe_int (pe_f (ok_L_pick (K := K) T) (hr.mono (by decide)) pass0 (pa_cons (pv 0) (pa_cons (pv 3) pa_nil)))) (pa_cons pe_int pa_nil)))) pa_nil)))) (pss_one (ps_expr (peApp K (pv 4) (pa_cons (pe_tup (pa_cons (pe_S [108, 97, 115, 116]) (pa_cons (pe_f (ok_L_signs (K := K) T) (hr.mono (by decide)) pass0 (pa_cons (pv 0) pa_nil)) (pa_cons pe_int pa_nil)))) pa_nil))))) (pss_cons (ps_expr (peApp K (pv 4) (pa_cons (pe_tup (pa_cons (pe_S [103, 111]) (pa_cons (pe_f (ok_L_pick (K := K) T) (hr.mono (by decide)) pass0 (pa_cons (pv 0) (pa_cons pe_int pa_nil))) pa_nil))) pa_nil))) (pss_cons (ps_expr (peApp K (pv 4) (pa_cons (pe_tup (pa_cons (pe_S [110, 97, 109, 101]) (pa_cons (pe_ix (ixK K) (pv 2) (pe_f (ok_L_pick (K := K) T) (hr.mono (by decide)) pass0 (pa_cons (pv 0) (pa_cons (pe_callB (cLen K) (by rfl) T.b_len (by decide +kernel) (pa_cons (pv 2) pa_nil)) pa_nil))) (fun _ _ => rfl)) pa_nil))) pa_nil))) (pss_cons (ps_expr (peApp K (pv 4) (pa_cons (pe_tup (pa_cons (pe_S [110, 97, 109, 101]) (pa_cons (pe_ix (ixK K) (pv 2) (pe_f (ok_L_pick (K := K) T) (hr.mono (by decide)) pass0 (pa_cons (pv 0) (pa_cons (pe_callB (cLen K) (by rfl) T.b_len (by decide +kernel) (pa_cons (pv 2) pa_nil)) pa_nil))) (fun _ _ => rfl)) pa_nil))) pa_nil))) (pss_one (ps_ret (pv 4)))))))))) pss_nil) (pss_cons (ps_set (i := 5) sc_L_lines.nd rfl (Or.inr rfl) (pe_op (opAdd K) pe_int (pe_f (ok_L_pick (K := K) T) (hr.mono (by decide)) pass0 (pa_cons (pv 0) (pa_cons (pv 1) pa_nil))))) (pss_cons (ps_setLc (i := 4) (own := [("_law_turn", 7)]) (g := gName 7) (tt := tYes) (by rfl) sc_L_lines.nd rfl rfl (sw_true rfl rfl rfl (by decide +kernel)) (pi_range1 rfl T.b_range (pa_cons (pv 5) pa_nil)) (blkOk_by (own := [("_law_turn", 7)]) (N := ["_law_draw_here", "_law_most", "_law_names_here", "_law_top", "_law_lines_here", "_law_many", "_law_kind", "_law_turn"]) (sc := (defScope s_L_lines)) (by decide +kernel)) (fun _ _ _ _ _ => (pg_name (i := 7) sc_L_lines.nd rfl (Or.inl rfl))) (fun _ _ _ _ _ => pts_nil) (fun _ _ _ _ _ => (pe_f (ok_L_order (K := K) T) (hr.mono (by decide)) pass0 (pa_cons (pv 0) (pa_cons (pv 5) (pa_cons (pv 2) (pa_cons (pv 3) pa_nil))))))) (pss_cons (ps_set (i := 6) sc_L_lines.nd rfl (Or.inl rfl) (pe_f (ok_L_pick (K := K) T) (hr.mono (by decide)) pass0 (pa_cons (pv 0) (pa_cons pe_int pa_nil)))) (Evl.pss_cut (ps_if (pt_cmpR (opEq K hr.units) (pv 6) pe_int (nomark _)) (pss_one (ps_asg (pe_tup (pa_cons (pe_S [108, 97, 115, 116]) (pa_cons (pe_f (ok_L_signs (K := K) T) (hr.mono (by decide)) pass0 (pa_cons (pv 0) pa_nil)) (pa_cons (pe_f (ok_L_pick (K := K) T) (hr.mono (by decide)) pass0 (pa_cons (pv 0) (pa_cons (pv 5) pa_nil))) pa_nil)))) (pg_sub (pv 4) pe_int set_list))) (pss_one (ps_if (pt_cmpR op_ltP (pv 6) pe_int (nomark _)) (pss_one (ps_asg (pe_tup (pa_cons (pe_S [112, 97, 115, 115]) (pa_cons (pe_op (opAdd K) pe_int (pe_f (ok_L_pick (K := K) T) (hr.mono (by decide)) pass0 (pa_cons (pv 0) (pa_cons (pv 3) pa_nil)))) pa_nil))) (pg_sub (pv 4) pe_int set_list))) (pss_one (ps_if (pt_cmpR op_ltP (pv 6) pe_int (nomark _)) (pss_one (ps_asg (pe_tup (pa_cons (pe_S [99, 111, 117, 110, 116]) (pa_cons (pe_f (ok_L_signs (K := K) T) (hr.mono (by decide)) pass0 (pa_cons (pv 0) pa_nil)) (pa_cons (pe_f (ok_L_signs (K := K) T) (hr.mono (by decide)) pass0 (pa_cons (pv 0) pa_nil)) (pa_cons (pe_op (opAdd K) pe_int (pe_f (ok_L_pick (K := K) T) (hr.mono (by decide)) pass0 (pa_cons (pv 0) (pa_cons (pv 3) pa_nil)))) pa_nil))))) (pg_sub (pv 4) pe_int set_list))) (pss_one (ps_if (pt_cmpR op_ltP (pv 6) pe_int (nomark _)) (pss_one (ps_asg (pe_tup (pa_cons (pe_S [119, 97, 105, 116]) (pa_cons (pe_f (ok_L_signs (K := K) T) (hr.mono (by decide)) pass0 (pa_cons (pv 0) pa_nil)) (pa_cons (pe_op (opAdd K) pe_int (pe_f (ok_L_pick (K := K) T) (hr.mono (by decide)) pass0 (pa_cons (pv 0) (pa_cons (pv 3) pa_nil)))) pa_nil)))) (pg_sub (pv 4) pe_int set_list))) pss_nil))))))) (pss_cons (ps_if (pw_and (pt_cmpR op_gtP (pv 5) pe_int (nomark _)) (pw_and1 (pt_cmpR (opEq K hr.units) (pe_f (ok_L_pick (K := K) T) (hr.mono (by decide)) pass0 (pa_cons (pv 0) (pa_cons pe_int pa_nil))) pe_int (nomark _)))).pt (pss_one (ps_asg (pe_tup (pa_cons (pe_S [110, 97, 109, 101]) (pa_cons (pe_ix (ixK K) (pv 2) (pe_f (ok_L_pick (K := K) T) (hr.mono (by decide)) pass0 (pa_cons (pv 0) (pa_cons (pe_callB (cLen K) (by rfl) T.b_len (by decide +kernel) (pa_cons (pv 2) pa_nil)) pa_nil))) (fun _ _ => rfl)) pa_nil))) (pg_sub (pv 4) (pe_op op_subP (pv 5) pe_int) set_list))) pss_nil) (pss_one (ps_ret (pv 4))))))))), ?_⟩
  show (_ : TS) { nx := fun _ H' => Q .non H', rt := Q } [some x, some y, some z, some u, none, none, none, none] H
  obtain ⟨Hk, dd, most, nl, n1, n2, top, rfl, rfl, rfl, rfl, m1, m2, t1, t2, dr, hn, w1, w2, q⟩ := h
  walk_at "go"
  refine i_cut (fun σ G => σ = [some (.ref dd.a), some (.int (most : Int)), some (.ref nl), some (.int (top : Int)), none, none, none, none] ∧ Dr K dd Hk G) ?_ ?_
  · walk_at "go"
    refine i_dec (fun e1 => ?_) (fun e1 => ⟨rfl, dr⟩)
    walk_at "go"
    refine ⟨Hk, dd, 3, rfl, rfl, dr, by decide, fun n H1 d1 bn => ?_⟩
    walk_at "go"
    refine i_dec (fun e2 => ?_) (fun e2 => ⟨rfl, d1⟩)
    walk_at "go"
    refine ⟨Hk, dd, rfl, d1, fun l H2 d2 gl => ?_⟩
    walk_at "go"
    refine ⟨Hk, dd, top, rfl, rfl, d2, by omega, fun n H3 d3 bn => ?_⟩
    obtain ⟨n, rfl, hn9⟩ := to_nat bn t1
    walk_at "go"
    rw [one_add]
    refine i_new (by show 3 ≤ 100000; omega) fun a na => ?_
    walk_at "go"
    refine i_new (by show 1 ≤ 100000; omega) fun t nt => ?_
    have ls := LS.one (m := 7) (o := .wait l (1 + n)) d3 na nt ⟨gl, by omega, by omega⟩
    change LS K dd Hk t 7 (upd (upd H3 a (.tup [S cWait, S l, .int ((1 + n : Nat) : Int)])) t (.lst [.ref a])) _ at ls
    generalize upd (upd H3 a (.tup [S cWait, S l, .int ((1 + n : Nat) : Int)])) t (.lst [.ref a]) = G0 at *
    clear d1 d2 d3 na nt bn hn9
    walk_at "go"
    -- count
    obtain ⟨N, xs, sN, ht, xl, dN, keep, mk⟩ := ls.op
    refine i_appAt (dN.old ht) ?_
    walk_at "go"
    refine ⟨N, dd, rfl, dN, fun l1 H1 d1 gl1 => ?_⟩
    walk_at "go"
    refine ⟨N, dd, rfl, d1, fun l2 H2 d2 gl2 => ?_⟩
    walk_at "go"
    refine ⟨N, dd, top, rfl, rfl, d2, by omega, fun n H3 d3 bn => ?_⟩
    obtain ⟨n, rfl, hn9⟩ := to_nat bn t1
    walk_at "go"
    rw [one_add]
    refine i_new (by show 4 ≤ 100000; omega) fun a na => ?_
    walk_at "go"
    obtain ⟨ht2, lsA, _⟩ := mk _ a (.count l1 l2 (1 + n)) (d3.free na) (d3.new na) ⟨gl1, gl2, by omega, by omega⟩
    refine i_appEnd ht2 (by rw [xl]; simp) ?_
    replace ls := lsA
    dsimp only [odV] at ls
    generalize upd (upd H3 a (.tup [S cCount, S l1, S l2, .int ((1 + n : Nat) : Int)])) t (.lst (xs ++ [.ref a])) = G1 at *
    clear d1 d2 d3 na lsA ht2 mk keep dN xl ht sN
    -- more
    walk_at "go"
    obtain ⟨N, xs, sN, ht, xl, dN, keep, mk⟩ := ls.op
    refine i_appAt (dN.old ht) ?_
    walk_at "go"
    refine ⟨N, dd, top, rfl, rfl, dN, by omega, fun n H3 d3 bn => ?_⟩
    obtain ⟨n, rfl, hn9⟩ := to_nat bn t1
    walk_at "go"
    rw [one_add]
    refine i_new (by show 3 ≤ 100000; omega) fun a na => ?_
    walk_at "go"
    obtain ⟨ht2, lsA, _⟩ := mk _ a (.more (1 + n) 5) (d3.free na) (d3.new na) ⟨by omega, by omega, by decide⟩
    refine i_appEnd ht2 (by rw [xl]; simp) ?_
    replace ls := lsA
    dsimp only [odV] at ls
    change LS K dd Hk t 7 (upd (upd H3 a (.tup [S cMore, .int ((1 + n : Nat) : Int), .int 5])) t (.lst (xs ++ [.ref a]))) _ at ls
    generalize upd (upd H3 a (.tup [S cMore, .int ((1 + n : Nat) : Int), .int 5])) t (.lst (xs ++ [.ref a])) = G2 at *
    clear d3 na lsA ht2 mk keep dN xl ht sN
    walk_at "go"
    -- more or last
    refine i_cut (fun σ G => ∃ os, σ = [some (.ref dd.a), some (.int (most : Int)), some (.ref nl), some (.int (top : Int)), some (.ref t), none, none, none] ∧ os.length = 4 ∧ LS K dd Hk t 7 G os) ?_ ?_
    · obtain ⟨N, xs, sN, ht, xl, dN, keep, mk⟩ := ls.op
      walk_at "go"
      refine ⟨N, dd, 2, rfl, rfl, dN, by decide, fun n H1 d1 bn => ?_⟩
      walk_at "go"
      refine i_dec (fun e3 => ?_) (fun e3 => ?_)
      · walk_at "go"
        refine i_appAt (d1.old ht) ?_
        walk_at "go"
        refine ⟨N, dd, top, rfl, rfl, d1, by omega, fun n H3 d3 bn => ?_⟩
        obtain ⟨n, rfl, hn9⟩ := to_nat bn t1
        walk_at "go"
        rw [one_add]
        refine i_new (by show 3 ≤ 100000; omega) fun a na => ?_
        walk_at "go"
        obtain ⟨ht2, lsA, _⟩ := mk _ a (.more (1 + n) 6) (d3.free na) (d3.new na) ⟨by omega, by omega, by decide⟩
        refine i_appEnd ht2 (by rw [xl]; simp) ?_
        exact ⟨_, rfl, rfl, lsA⟩
      · walk_at "go"
        refine i_appAt (d1.old ht) ?_
        walk_at "go"
        refine ⟨N, dd, rfl, d1, fun l1 H2 d2 gl1 => ?_⟩
        walk_at "go"
        refine i_new (by show 3 ≤ 100000; omega) fun a na => ?_
        walk_at "go"
        obtain ⟨ht2, lsA, _⟩ := mk _ a (.last l1 6) (d2.free na) (d2.new na) ⟨gl1, by decide⟩
        refine i_appEnd ht2 (by rw [xl]; simp) ?_
        exact ⟨_, rfl, rfl, lsA⟩
    clear ls
    rintro σ G ⟨os4, rfl, o4, ls⟩
    walk_at "go"
    -- go
    obtain ⟨N, xs, sN, ht, xl, dN, keep, mk⟩ := ls.op
    refine i_appAt (dN.old ht) ?_
    walk_at "go"
    refine ⟨N, dd, 4, rfl, rfl, dN, by decide, fun n H3 d3 bn => ?_⟩
    obtain ⟨n, rfl, hn4⟩ := to_nat (t := 4) bn (by decide)
    walk_at "go"
    refine i_new (by show 2 ≤ 100000; omega) fun a na => ?_
    walk_at "go"
    obtain ⟨ht2, lsA, _⟩ := mk _ a (.go n) (d3.free na) (d3.new na) (by show n < 7; omega)
    refine i_appEnd ht2 (by rw [xl]; first | omega | (simp; omega)) ?_
    replace ls := lsA
    dsimp only [odV] at ls
    generalize upd (upd H3 a (.tup [S cGo, .int (n : Int)])) t (.lst (xs ++ [.ref a])) = G3 at *
    clear d3 na lsA ht2 mk keep dN xl ht sN
    walk_at "go"
    -- name
    obtain ⟨N, xs, sN, ht, xl, dN, keep, mk⟩ := ls.op
    have hnN := sN _ _ hn
    refine i_appAt (dN.old ht) ?_
    walk_at "go"
    refine i_len_lst (.inl (.inl (dN.old hnN))) ?_
    walk_at "go"
    refine ⟨N, dd, 2, rfl, rfl, dN, by decide, fun n H3 d3 bn => ?_⟩
    obtain ⟨w', hw, gw⟩ := two_names w1 w2 bn
    refine i_ix_lst (.inl (.inl (d3.old hnN))) hw ?_
    walk_at "go"
    refine i_new (by show 2 ≤ 100000; omega) fun a na => ?_
    walk_at "go"
    obtain ⟨ht2, lsA, _⟩ := mk _ a (.name w') (d3.free na) (d3.new na) gw
    refine i_appEnd ht2 (by rw [xl]; first | omega | (simp; omega)) ?_
    replace ls := lsA
    dsimp only [odV] at ls
    generalize upd (upd H3 a (.tup [S cName, S w'])) t (.lst (xs ++ [.ref a])) = G4 at *
    clear d3 na lsA ht2 mk keep dN xl ht sN hnN hw bn
    walk_at "go"
    -- name
    obtain ⟨N, xs, sN, ht, xl, dN, keep, mk⟩ := ls.op
    have hnN := sN _ _ hn
    refine i_appAt (dN.old ht) ?_
    walk_at "go"
    refine i_len_lst (.inl (.inl (dN.old hnN))) ?_
    walk_at "go"
    refine ⟨N, dd, 2, rfl, rfl, dN, by decide, fun n H3 d3 bn => ?_⟩
    obtain ⟨w', hw, gw⟩ := two_names w1 w2 bn
    refine i_ix_lst (.inl (.inl (d3.old hnN))) hw ?_
    walk_at "go"
    refine i_new (by show 2 ≤ 100000; omega) fun a na => ?_
    walk_at "go"
    obtain ⟨ht2, lsA, _⟩ := mk _ a (.name w') (d3.free na) (d3.new na) gw
    refine i_appEnd ht2 (by rw [xl]; first | omega | (simp; omega)) ?_
    replace ls := lsA
    walk_at "go"
    have fin7 : ∀ {G : Hp} {os : List Od}, os.length = 7 → LS K dd Hk t 7 G os → Q (.ref t) G := fun {G os} l7 ls => by
      obtain ⟨Hk', ys, s', d', h', al', f'⟩ := ls.cl
      exact q t Hk' ys _ _ s' d' h' al' (by rw [l7]; exact f') (by omega) (by omega)
    exact fin7 (by simp; omega) ls
  rintro σ G ⟨rfl, dr⟩
  walk_at "go"
  refine ⟨Hk, dd, most, rfl, rfl, dr, by omega, fun n H1 d1 bn => ?_⟩
  obtain ⟨n, rfl, hn20⟩ := to_nat bn m1
  walk_at "go"
  rw [one_add]
  generalize hm : 1 + n = m at *
  have hm1 : 1 ≤ m := by omega
  have hm2 : m ≤ 20 := by omega
  refine i_lcR ?_
  walk_at "go"
  refine i_lcRg (by omega) (by omega) (fun _ => rfl) fun t nt => ?_
  refine ⟨fun i G => ∃ os, os.length = i ∧ LS K dd Hk t m G os, ⟨[], rfl, LS.new d1 nt⟩, ?_, ?_⟩
  · rintro i G hi ⟨os, oi, ls⟩
    obtain ⟨N, xs, sN, ht, xl, dN, keep, mk⟩ := ls.op
    walk_at "n"
    walk_at "go"
    refine ⟨N, dd, m, nl, n1, n2, top, rfl, rfl, rfl, rfl, by omega, by omega, t1, t2, dN, sN _ _ hn, w1, w2, fun a o G2 na d2 fo => ?_⟩
    obtain ⟨ht2, lsA, _⟩ := mk _ a o na d2 fo
    exact ⟨xs, ht2, by rw [xl, oi, sizeLine_eq]; omega, os ++ [o], by rw [List.length_append, oi]; rfl, lsA⟩
  rintro G ⟨os, oi, ls⟩
  rw [Int.toNat_natCast] at oi
  walk_at "go"
  obtain ⟨N, xs, sN, ht, xl, dN, keep, mk⟩ := ls.op
  refine ⟨N, dd, 8, rfl, rfl, dN, by decide, fun kd H2 d2 bk => ?_⟩
  replace ls := keep _ d2
  clear keep mk ht xl dN sN
  walk_at "go"
  have fin : ∀ {G2 : Hp}, LS K dd Hk t m G2 os → ∃ os, ([some (.ref dd.a), some (.int (most : Int)), some (.ref nl), some (.int (top : Int)), some (.ref t), some (.int (m : Int)), some (.int kd), none] : L2.St) = [some (.ref dd.a), some (.int (most : Int)), some (.ref nl), some (.int (top : Int)), some (.ref t), some (.int (m : Int)), some (.int kd), none] ∧ os.length = m ∧ LS K dd Hk t m G2 os := fun h => ⟨_, rfl, oi, h⟩
  have finS : ∀ {G2 : Hp} {o : Od} {j : Nat}, LS K dd Hk t m G2 (os.set j o) → ∃ os, ([some (.ref dd.a), some (.int (most : Int)), some (.ref nl), some (.int (top : Int)), some (.ref t), some (.int (m : Int)), some (.int kd), none] : L2.St) = [some (.ref dd.a), some (.int (most : Int)), some (.ref nl), some (.int (top : Int)), some (.ref t), some (.int (m : Int)), some (.int kd), none] ∧ os.length = m ∧ LS K dd Hk t m G2 os := fun h => ⟨_, rfl, by rw [List.length_set, oi], h⟩
  refine i_cut (fun σ G2 => ∃ os, σ = [some (.ref dd.a), some (.int (most : Int)), some (.ref nl), some (.int (top : Int)), some (.ref t), some (.int (m : Int)), some (.int kd), none] ∧ os.length = m ∧ LS K dd Hk t m G2 os) ?_ ?_
  · obtain ⟨N, xs, sN, ht, xl, dN, keep, mk⟩ := ls.op
    walk_at "go"
    refine i_dec (fun e => ?_) (fun e => ?_)
    · walk_at "go"
      refine ⟨N, dd, rfl, dN, fun l1 H2 d2 gl1 => ?_⟩
      walk_at "go"
      refine ⟨N, dd, m, rfl, rfl, d2, by omega, fun n H3 d3 bn => ?_⟩
      obtain ⟨n, rfl, hn9⟩ := to_nat bn hm1
      walk_at "go"
      refine i_new (by show 3 ≤ 100000; omega) fun a na => ?_
      walk_at "go"
      obtain ⟨ht2, _, lsS⟩ := mk _ a (.last l1 n) (d3.free na) (d3.new na) ⟨gl1, hn9⟩
      refine i_setL 0 ht2 (Evl.ixN_nat (j := 0) (by omega)) rfl ?_
      exact finS (lsS 0)
    walk_at "go"
    refine i_dec (fun e => ?_) (fun e => ?_)
    · walk_at "go"
      refine ⟨N, dd, top, rfl, rfl, dN, by omega, fun n H3 d3 bn => ?_⟩
      obtain ⟨n, rfl, hn9⟩ := to_nat bn t1
      walk_at "go"
      rw [one_add]
      refine i_new (by show 2 ≤ 100000; omega) fun a na => ?_
      walk_at "go"
      obtain ⟨ht2, _, lsS⟩ := mk _ a (.pass (1 + n)) (d3.free na) (d3.new na) ⟨by omega, by omega⟩
      refine i_setL 0 ht2 (Evl.ixN_nat (j := 0) (by omega)) rfl ?_
      exact finS (lsS 0)
    walk_at "go"
    refine i_dec (fun e => ?_) (fun e => ?_)
    · walk_at "go"
      refine ⟨N, dd, rfl, dN, fun l1 H1 d1 gl1 => ?_⟩
      walk_at "go"
      refine ⟨N, dd, rfl, d1, fun l2 H2 d2 gl2 => ?_⟩
      walk_at "go"
      refine ⟨N, dd, top, rfl, rfl, d2, by omega, fun n H3 d3 bn => ?_⟩
      obtain ⟨n, rfl, hn9⟩ := to_nat bn t1
      walk_at "go"
      rw [one_add]
      refine i_new (by show 4 ≤ 100000; omega) fun a na => ?_
      walk_at "go"
      obtain ⟨ht2, _, lsS⟩ := mk _ a (.count l1 l2 (1 + n)) (d3.free na) (d3.new na) ⟨gl1, gl2, by omega, by omega⟩
      refine i_setL 0 ht2 (Evl.ixN_nat (j := 0) (by omega)) rfl ?_
      exact finS (lsS 0)
    walk_at "go"
    refine i_dec (fun e => ?_) (fun e => fin ls)
    · walk_at "go"
      refine ⟨N, dd, rfl, dN, fun l1 H1 d1 gl1 => ?_⟩
      walk_at "go"
      refine ⟨N, dd, top, rfl, rfl, d1, by omega, fun n H3 d3 bn => ?_⟩
      obtain ⟨n, rfl, hn9⟩ := to_nat bn t1
      walk_at "go"
      rw [one_add]
      refine i_new (by show 3 ≤ 100000; omega) fun a na => ?_
      walk_at "go"
      obtain ⟨ht2, _, lsS⟩ := mk _ a (.wait l1 (1 + n)) (d3.free na) (d3.new na) ⟨gl1, by omega, by omega⟩
      refine i_setL 0 ht2 (Evl.ixN_nat (j := 0) (by omega)) rfl ?_
      exact finS (lsS 0)
  clear fin finS ls oi
  rintro σ G2 ⟨os, rfl, oi, ls⟩
  have done : ∀ {G3 : Hp} {os : List Od}, os.length = m → LS K dd Hk t m G3 os → Q (.ref t) G3 := fun {G3 os} oi ls => by
    obtain ⟨Hk', ys, s', d', h', al', f'⟩ := ls.cl
    exact q t Hk' ys _ _ s' d' h' al' (by rw [oi]; exact f') (by omega) (by omega)
  walk_at "go"
  refine i_dec (fun e => ?_) (fun e => ?_)
  rotate_left
  · walk_at "go"
    exact done oi ls
  obtain ⟨N, xs, sN, ht, xl, dN, keep, mk⟩ := ls.op
  have hnN := sN _ _ hn
  walk_at "go"
  refine ⟨N, dd, 2, rfl, rfl, dN, by decide, fun n H1 d1 bn => ?_⟩
  walk_at "go"
  refine i_dec (fun e => ?_) (fun e => ?_)
  · walk_at "go"
    refine i_len_lst (.inl (.inl (d1.old hnN))) ?_
    walk_at "go"
    refine ⟨N, dd, 2, rfl, rfl, d1, by decide, fun n H3 d3 bn => ?_⟩
    obtain ⟨w', hw, gw⟩ := two_names w1 w2 bn
    refine i_ix_lst (.inl (.inl (d3.old hnN))) hw ?_
    walk_at "go"
    refine i_new (by show 2 ≤ 100000; omega) fun a na => ?_
    walk_at "go"
    obtain ⟨ht2, _, lsS⟩ := mk _ a (.name w') (d3.free na) (d3.new na) gw
    refine i_setL (m - 1) ht2 (by rw [show (m : Int) - 1 = ((m - 1 : Nat) : Int) by omega]; exact Evl.ixN_nat (by omega)) rfl ?_
    walk_at "go"
    exact done (by rw [List.length_set, oi]) (lsS (m - 1))
  · walk_at "go"
    exact done oi (keep _ d1)
end
end K47
namespace K47
open PySem PySem.Spec PyProof.Rows L2 Fg
local macro_rules | `(tactic| walk_at "sq") => `(tactic| first
  | assumption
  | exact .inl (.inl (by assumption))
  | exact .inl (.inl upd_same))
local macro_rules | `(tactic| walk_at "st") => `(tactic| first
  | assumption
  | exact .inl (.inl (by assumption))
  | exact .inl (.inl upd_same))
local macro_rules | `(tactic| walk_at "o") => `(tactic| first
  | omega
  | assumption
  | (simp only [List.length_append, List.length_take, List.length_drop, List.length_cons, List.length_nil, List.length_singleton, List.length_map, List.length_range, Int.toNat_natCast] ; omega))
local macro_rules | `(tactic| walk_at "s") => `(tactic| first
  | (with_reducible refine i_seq ?_)
  | (with_reducible refine i_asg ?_)
  | ((with_reducible refine' i_var ?h1 ?_); (case h1 => rfl))
  | (with_reducible refine i_c ?_)
  | ((with_reducible refine' i_gname' ?h1 ?_); (case h1 => (simp only [List.set_cons_zero, List.set_cons_succ]; rfl)))
  | (with_reducible refine i_op ?_)
  | (with_reducible refine i_ifS ?_)
  | (with_reducible refine i_for ?_)
  | (with_reducible refine i_test ?_)
  | (with_reducible refine i_B ?_)
  | (with_reducible refine i_exbl ?_)
  | (with_reducible refine i_exint ?_)
  | (with_reducible refine i_cb ?_)
  | (with_reducible refine i_nil ?_)
  | (with_reducible refine i_cons ?_)
  | (with_reducible refine i_ret ?_)
  | (with_reducible refine i_sl ?_)
  | (with_reducible refine i_nopart ?_)
  | (with_reducible refine i_part ?_)
  | (with_reducible refine i_add_int ?_)
  | (with_reducible refine i_sub ?_)
  | (with_reducible refine i_lt ?_)
  | ((with_reducible refine' i_mod ?h1 ?_); (case h1 => walk_at "o"))
  | ((with_reducible refine' i_fdiv ?h1 ?_); (case h1 => (refine cdiv_small ?_ ?_ <;> walk_at "o")))
  | ((with_reducible refine' i_sl_to ?h1 ?h2 ?_); (case h1 => walk_at "o"); (case h2 => walk_at "o"))
  | ((with_reducible refine' i_sl_from ?h1 ?h2 ?_); (case h1 => walk_at "o"); (case h2 => walk_at "o"))
  | ((with_reducible refine' i_add_str ?h1 ?_); (case h1 => walk_at "o"))
  | ((with_reducible refine' i_mul_int ?h1 ?_); (case h1 => first | (refine mul_small ?_ ?_ <;> walk_at "o") | (refine mul_smallR ?_ ?_ <;> walk_at "o")))
  | (with_reducible refine i_le ?_)
  | (with_reducible refine i_gt ?_)
  | (with_reducible refine i_ge ?_)
  | (with_reducible refine i_eq_int ?_)
  | (with_reducible refine i_eq_str ?_)
  | (with_reducible refine i_ne_int ?_)
  | (with_reducible refine i_ne_str ?_)
  | (with_reducible refine i_eq_bl ?_)
  | (with_reducible refine i_ne_bl ?_)
  | (with_reducible refine i_in_sg ?_)
  | (with_reducible refine i_notIn_sg ?_)
  | (with_reducible refine i_call ?_)
  | (with_reducible refine i_callS ?_)
  | (with_reducible refine i_sp1 ?_)
  | (with_reducible refine i_sp2 ?_)
  | (with_reducible refine i_sp3 ?_)
  | (with_reducible refine i_sp4 ?_)
  | (with_reducible refine i_sp1' ?_)
  | (with_reducible refine i_sp2' ?_)
  | (with_reducible refine i_sp3' ?_)
  | ((with_reducible refine' i_ix_lst ?h1 ?h2 ?_); (case h1 => walk_at "sq"); (case h2 => first | exact atI_nat rfl | rfl))
  | ((with_reducible refine' i_ix_tup ?h1 ?h2 ?_); (case h1 => walk_at "st"); (case h2 => first | exact atI_nat rfl | rfl))
  | (with_reducible refine i_gsub ?_)
  | (with_reducible refine i_par ?_)
  | (with_reducible refine i_lstRg1 ?_)
  | (with_reducible refine i_app ?_)
  | (with_reducible refine i_par2 ?_)
  | ((with_reducible refine' i_aug ?h1 ?_); (case h1 => rfl))
  | (with_reducible refine i_ipI ?_)
  | ((with_reducible refine' i_gtup2 ?h1 ?_); (case h1 => walk_at "st"))
  | (with_reducible refine i_int_bl ?_)
  | (with_reducible refine i_raise ?_)
  | (with_reducible refine i_mkE ?_)
  | (with_reducible refine i_ex1 ?_)
  | (with_reducible refine i_and ?_)
  | (with_reducible refine i_or ?_)
  | (with_reducible refine i_not ?_)
  | (with_reducible refine i_tt ?_)
  | (with_reducible refine i_ff ?_)
  | (with_reducible refine i_nott ?_)
  | (with_reducible refine i_notf ?_)
  | (with_reducible refine i_andV ?_)
  | (with_reducible refine i_orV ?_)
  | (with_reducible refine i_notV ?_)
  | (with_reducible refine i_ifE ?_)
  | (with_reducible refine i_tup ?_)
  | (with_reducible refine i_lst ?_)
  | (with_reducible refine i_un ?_)
  | (with_reducible refine i_neg ?_)
  | (with_reducible refine i_chain ?_)
  | (with_reducible refine i_next ?_)
  | (with_reducible refine i_retN ?_)
  | (with_reducible refine i_drop ?_)
  | (with_reducible refine i_int_int ?_)
  | (with_reducible refine i_abs ?_)
  | (with_reducible refine i_m1c ?_)
  | (with_reducible refine i_is_non ?_)
  | (with_reducible refine i_is_int ?_)
  | (with_reducible refine i_is_bl ?_)
  | (with_reducible refine i_isn_bl ?_)
  | (with_reducible refine i_is_str ?_)
  | (with_reducible refine i_is_ref ?_)
  | (with_reducible refine i_isn_non ?_)
  | (with_reducible refine i_isn_int ?_)
  | (with_reducible refine i_isn_str ?_)
  | (with_reducible refine i_isn_ref ?_)
  | (with_reducible refine i_len_str ?h1 ?_; (case h1 => walk_at "o"))
  | (with_reducible refine i_callD ?_)
  | (with_reducible refine i_spD2 ?_)
  | (with_reducible refine i_spM1 ?_)
  | (with_reducible refine i_spM2 ?_)
  | (with_reducible refine i_spM3 ?_)
  | (with_reducible refine i_spM4 ?_)
  | (with_reducible refine i_spM3d ?_)
  | (with_reducible refine i_tfld ?_)
  | (with_reducible refine i_sfld ?_)
  | (with_reducible refine i_meth ?_)
  | (with_reducible refine i_make ?_)
  | (with_reducible refine i_spl ?_)
  | (with_reducible refine i_mkE2 ?_)
  | (with_reducible refine i_ex2 ?_)
  | (with_reducible refine i_dget ?_)
  | (with_reducible refine i_tru ?_)
  | (with_reducible refine i_dput ?_)
  | (with_reducible refine i_dnotin ?_)
  | (with_reducible refine i_din ?_)
  | (with_reducible refine i_rev ?_)
  | (with_reducible refine i_isi_int_int ?_) | (with_reducible refine i_isi_int_bool ?_) | (with_reducible refine i_isi_int_str ?_) | (with_reducible refine i_isi_int_tuple ?_) | (with_reducible refine i_isi_int_list ?_)
  | (with_reducible refine i_isi_bl_int ?_) | (with_reducible refine i_isi_bl_bool ?_) | (with_reducible refine i_isi_bl_str ?_) | (with_reducible refine i_isi_bl_tuple ?_) | (with_reducible refine i_isi_bl_list ?_)
  | (with_reducible refine i_isi_str_int ?_) | (with_reducible refine i_isi_str_bool ?_) | (with_reducible refine i_isi_str_str ?_) | (with_reducible refine i_isi_str_tuple ?_) | (with_reducible refine i_isi_str_list ?_)
  | (with_reducible refine i_isi_non_int ?_) | (with_reducible refine i_isi_non_bool ?_) | (with_reducible refine i_isi_non_str ?_) | (with_reducible refine i_isi_non_tuple ?_) | (with_reducible refine i_isi_non_list ?_))
local macro_rules | `(tactic| walk_at "go") => `(tactic| (repeat' (walk_at "s")))
local macro_rules | `(tactic| walk_at "n") => `(tactic| simp only [wipe, List.map_cons, List.map_nil, List.set_cons_zero, List.set_cons_succ])
def lastK : Option Nat → Key
  | none => kS []
  | some x => kS [x]
def sitK : Sit → List Key
  | .at line b i c l => [.inl line, .inl b, .inl i, .inl c, lastK l]
  | .over w => [.inl (-1), kS (w.getD [])]
theorem sitK_V (s : Sit) : (sitK s).map kV = sitV s := by
  cases s with
  | over w => rfl
  | «at» line b i c l => cases l <;> rfl
def isT (T : List Sit) (s : Sit) : Bool := T.any fun u => decide (sitK u = sitK s)
def nm (T : List Sit) (s : Sit) : Nat := T.findIdx fun u => decide (sitK u = sitK s)
def addS (T : List Sit) (s : Sit) : List Sit := if isT T s = true then T else T ++ [s]
def at0 (T : List Sit) (i : Nat) : Sit := T.getD i (.over none)
def addsS (os : List Od) (s : Sit) (T : List Sit) (xs : List Nat) : List Sit := xs.foldl (fun T x => addS T (led os s x)) T
/-- behind i states -/
def TT (os : List Od) : Nat → List Sit
  | 0 => [arr os (os.length + 1) [] 0 0 none]
  | i + 1 => addsS os (at0 (TT os i) i) (TT os i) SG
def wordS : Sit → List Nat
  | .over w => w.getD []
  | _ => []
def rowJ (os : List Od) (i : Nat) : List Nat × List Nat := (wordS (at0 (TT os i) i), SG.map fun x => nm (TT os (i + 1)) (led os (at0 (TT os i) i) x))
def numK (T : List Sit) : List Key → Option V := fun k => (T.findIdx? fun u => decide (sitK u = k)).map fun n : Nat => V.int (n : Int)
theorem isT_add (T : List Sit) (s : Sit) : isT (addS T s) s = true := by
  unfold addS
  split
  · assumption
  · unfold isT
    rw [List.any_append]
    simp
theorem isT_mono {T : List Sit} {s : Sit} (h : isT T s = true) (u : Sit) : isT (addS T u) s = true := by
  unfold addS
  split
  · exact h
  · unfold isT at *
    rw [List.any_append, h]; rfl
theorem nm_lt {T : List Sit} {s : Sit} (h : isT T s = true) : nm T s < T.length := by
  unfold isT at h
  rw [List.any_eq_true] at h
  exact List.findIdx_lt_length_of_exists h
theorem nm_mono {T : List Sit} {s : Sit} (h : isT T s = true) (u : Sit) : nm (addS T u) s = nm T s := by
  unfold addS
  split
  · rfl
  · have := nm_lt h
    unfold nm at *
    rw [List.findIdx_append, if_pos this]
theorem addS_len (T : List Sit) (s : Sit) : T.length ≤ (addS T s).length ∧ (addS T s).length ≤ T.length + 1 := by
  unfold addS
  split
  · omega
  · rw [List.length_append, List.length_singleton]; omega
theorem addS_mem {T : List Sit} {s u : Sit} (h : u ∈ addS T s) : u ∈ T ∨ u = s := by
  unfold addS at h
  split at h
  · exact .inl h
  · rcases List.mem_append.mp h with h | h
    · exact .inl h
    · exact .inr (List.mem_singleton.mp h)
theorem addsS_len (os : List Od) (s : Sit) : ∀ (xs : List Nat) (T : List Sit), T.length ≤ (addsS os s T xs).length ∧ (addsS os s T xs).length ≤ T.length + xs.length
  | [], T => ⟨Nat.le_refl _, Nat.le_refl _⟩
  | x :: r, T => by
    have h1 := addS_len T (led os s x)
    have h2 := addsS_len os s r (addS T (led os s x))
    show _ ≤ (addsS os s (addS T (led os s x)) r).length ∧ (addsS os s (addS T (led os s x)) r).length ≤ _
    rw [List.length_cons]
    omega
theorem addsS_app (os : List Od) (s : Sit) (T : List Sit) (xs : List Nat) (x : Nat) : addsS os s T (xs ++ [x]) = addS (addsS os s T xs) (led os s x) := by
  unfold addsS
  rw [List.foldl_append]; rfl
theorem TT_len (os : List Od) (i : Nat) : (TT os i).length ≤ (TT os (i + 1)).length := (addsS_len os _ SG (TT os i)).1
theorem TT_le (os : List Od) : ∀ (i j : Nat), i ≤ j → (TT os i).length ≤ (TT os j).length
  | i, 0, h => by
    obtain rfl : i = 0 := by omega
    exact Nat.le_refl _
  | i, j + 1, h => by
    rcases Nat.lt_or_ge i (j + 1) with h' | h'
    · exact Nat.le_trans (TT_le os i j (by omega)) (TT_len os j)
    · obtain rfl : i = j + 1 := by omega
      exact Nat.le_refl _
theorem addsS_is (os : List Od) (s : Sit) : ∀ (xs : List Nat) (T : List Sit) (x : Nat), x ∈ xs → isT (addsS os s T xs) (led os s x) = true := by
  have keep : ∀ (xs : List Nat) (T : List Sit) (u : Sit), isT T u = true → isT (addsS os s T xs) u = true := by
    intro xs
    induction xs with
    | nil => exact fun T u h => h
    | cons x r ih => exact fun T u h => ih _ u (isT_mono h _)
  intro xs
  induction xs with
  | nil => exact fun T x h => absurd h (by simp)
  | cons y r ih =>
    intro T x h
    rcases List.mem_cons.mp h with rfl | h
    · exact keep r _ _ (isT_add T _)
    · exact ih _ x h
theorem numK_is (T : List Sit) (s : Sit) : (numK T (sitK s)).isSome = isT T s := by
  unfold numK isT
  rw [Option.isSome_map, List.findIdx?_isSome]
theorem numK_nm {T : List Sit} {s : Sit} (h : isT T s = true) : numK T (sitK s) = some (.int (nm T s : Int)) := by
  have lt := nm_lt h
  unfold numK nm at *
  rw [List.findIdx?_eq_some_of_exists (by unfold isT at h; rwa [List.any_eq_true] at h)]
  rfl
theorem numK_put {T : List Sit} {s : Sit} (h : isT T s = false) : setKd (numK T) (sitK s) (.int (T.length : Int)) = numK (T ++ [s]) := by
  funext k
  unfold setKd numK
  rw [List.findIdx?_append]
  by_cases e : k = sitK s
  · subst e
    have : T.findIdx? (fun u => decide (sitK u = sitK s)) = none := by
      have := numK_is T s
      rw [h] at this
      unfold numK at this
      rw [Option.isSome_map] at this
      cases z : T.findIdx? (fun u => decide (sitK u = sitK s)) with
      | none => rfl
      | some _ => rw [z] at this; cases this
    rw [if_pos rfl, this]
    simp
  · rw [if_neg e]
    have : ([s] : List Sit).findIdx? (fun u => decide (sitK u = k)) = none := by
      rw [List.findIdx?_eq_none_iff]
      intro x hx
      rw [List.mem_singleton.mp hx]
      exact decide_eq_false (fun z => e z.symm)
    rw [this]
    simp
theorem numK_one (s : Sit) : setKd (fun _ => none) (sitK s) (.int 0) = numK [s] := by
  have := numK_put (T := []) (s := s) rfl
  have e : numK [] = fun _ => none := rfl
  rw [e] at this
  exact this
end K47
namespace K47
open PySem PySem.Spec PyProof.Rows L2 Fg
local macro_rules | `(tactic| walk_at "sq") => `(tactic| first
  | assumption
  | exact .inl (.inl (by assumption))
  | exact .inl (.inl upd_same))
local macro_rules | `(tactic| walk_at "st") => `(tactic| first
  | assumption
  | exact .inl (.inl (by assumption))
  | exact .inl (.inl upd_same))
local macro_rules | `(tactic| walk_at "o") => `(tactic| first
  | omega
  | assumption
  | (simp only [List.length_append, List.length_take, List.length_drop, List.length_cons, List.length_nil, List.length_singleton, List.length_map, List.length_range, Int.toNat_natCast] ; omega))
local macro_rules | `(tactic| walk_at "s") => `(tactic| first
  | (with_reducible refine i_seq ?_)
  | (with_reducible refine i_asg ?_)
  | ((with_reducible refine' i_var ?h1 ?_); (case h1 => rfl))
  | (with_reducible refine i_c ?_)
  | ((with_reducible refine' i_gname' ?h1 ?_); (case h1 => (simp only [List.set_cons_zero, List.set_cons_succ]; rfl)))
  | (with_reducible refine i_op ?_)
  | (with_reducible refine i_ifS ?_)
  | (with_reducible refine i_for ?_)
  | (with_reducible refine i_test ?_)
  | (with_reducible refine i_B ?_)
  | (with_reducible refine i_exbl ?_)
  | (with_reducible refine i_exint ?_)
  | (with_reducible refine i_cb ?_)
  | (with_reducible refine i_nil ?_)
  | (with_reducible refine i_cons ?_)
  | (with_reducible refine i_ret ?_)
  | (with_reducible refine i_sl ?_)
  | (with_reducible refine i_nopart ?_)
  | (with_reducible refine i_part ?_)
  | (with_reducible refine i_add_int ?_)
  | (with_reducible refine i_sub ?_)
  | (with_reducible refine i_lt ?_)
  | ((with_reducible refine' i_mod ?h1 ?_); (case h1 => walk_at "o"))
  | ((with_reducible refine' i_fdiv ?h1 ?_); (case h1 => (refine cdiv_small ?_ ?_ <;> walk_at "o")))
  | ((with_reducible refine' i_sl_to ?h1 ?h2 ?_); (case h1 => walk_at "o"); (case h2 => walk_at "o"))
  | ((with_reducible refine' i_sl_from ?h1 ?h2 ?_); (case h1 => walk_at "o"); (case h2 => walk_at "o"))
  | ((with_reducible refine' i_add_str ?h1 ?_); (case h1 => walk_at "o"))
  | ((with_reducible refine' i_mul_int ?h1 ?_); (case h1 => first | (refine mul_small ?_ ?_ <;> walk_at "o") | (refine mul_smallR ?_ ?_ <;> walk_at "o")))
  | (with_reducible refine i_le ?_)
  | (with_reducible refine i_gt ?_)
  | (with_reducible refine i_ge ?_)
  | (with_reducible refine i_eq_int ?_)
  | (with_reducible refine i_eq_str ?_)
  | (with_reducible refine i_ne_int ?_)
  | (with_reducible refine i_ne_str ?_)
  | (with_reducible refine i_eq_bl ?_)
  | (with_reducible refine i_ne_bl ?_)
  | (with_reducible refine i_in_sg ?_)
  | (with_reducible refine i_notIn_sg ?_)
  | (with_reducible refine i_call ?_)
  | (with_reducible refine i_callS ?_)
  | (with_reducible refine i_sp1 ?_)
  | (with_reducible refine i_sp2 ?_)
  | (with_reducible refine i_sp3 ?_)
  | (with_reducible refine i_sp4 ?_)
  | (with_reducible refine i_sp1' ?_)
  | (with_reducible refine i_sp2' ?_)
  | (with_reducible refine i_sp3' ?_)
  | ((with_reducible refine' i_ix_lst ?h1 ?h2 ?_); (case h1 => walk_at "sq"); (case h2 => first | exact atI_nat rfl | rfl))
  | ((with_reducible refine' i_ix_tup ?h1 ?h2 ?_); (case h1 => walk_at "st"); (case h2 => first | exact atI_nat rfl | rfl))
  | (with_reducible refine i_gsub ?_)
  | (with_reducible refine i_par ?_)
  | (with_reducible refine i_lstRg1 ?_)
  | (with_reducible refine i_app ?_)
  | (with_reducible refine i_par2 ?_)
  | ((with_reducible refine' i_aug ?h1 ?_); (case h1 => rfl))
  | (with_reducible refine i_ipI ?_)
  | ((with_reducible refine' i_gtup2 ?h1 ?_); (case h1 => walk_at "st"))
  | (with_reducible refine i_int_bl ?_)
  | (with_reducible refine i_raise ?_)
  | (with_reducible refine i_mkE ?_)
  | (with_reducible refine i_ex1 ?_)
  | (with_reducible refine i_and ?_)
  | (with_reducible refine i_or ?_)
  | (with_reducible refine i_not ?_)
  | (with_reducible refine i_tt ?_)
  | (with_reducible refine i_ff ?_)
  | (with_reducible refine i_nott ?_)
  | (with_reducible refine i_notf ?_)
  | (with_reducible refine i_andV ?_)
  | (with_reducible refine i_orV ?_)
  | (with_reducible refine i_notV ?_)
  | (with_reducible refine i_ifE ?_)
  | (with_reducible refine i_tup ?_)
  | (with_reducible refine i_lst ?_)
  | (with_reducible refine i_un ?_)
  | (with_reducible refine i_neg ?_)
  | (with_reducible refine i_chain ?_)
  | (with_reducible refine i_next ?_)
  | (with_reducible refine i_retN ?_)
  | (with_reducible refine i_drop ?_)
  | (with_reducible refine i_int_int ?_)
  | (with_reducible refine i_abs ?_)
  | (with_reducible refine i_m1c ?_)
  | (with_reducible refine i_is_non ?_)
  | (with_reducible refine i_is_int ?_)
  | (with_reducible refine i_is_bl ?_)
  | (with_reducible refine i_isn_bl ?_)
  | (with_reducible refine i_is_str ?_)
  | (with_reducible refine i_is_ref ?_)
  | (with_reducible refine i_isn_non ?_)
  | (with_reducible refine i_isn_int ?_)
  | (with_reducible refine i_isn_str ?_)
  | (with_reducible refine i_isn_ref ?_)
  | (with_reducible refine i_len_str ?h1 ?_; (case h1 => walk_at "o"))
  | (with_reducible refine i_callD ?_)
  | (with_reducible refine i_spD2 ?_)
  | (with_reducible refine i_spM1 ?_)
  | (with_reducible refine i_spM2 ?_)
  | (with_reducible refine i_spM3 ?_)
  | (with_reducible refine i_spM4 ?_)
  | (with_reducible refine i_spM3d ?_)
  | (with_reducible refine i_tfld ?_)
  | (with_reducible refine i_sfld ?_)
  | (with_reducible refine i_meth ?_)
  | (with_reducible refine i_make ?_)
  | (with_reducible refine i_spl ?_)
  | (with_reducible refine i_mkE2 ?_)
  | (with_reducible refine i_ex2 ?_)
  | (with_reducible refine i_dget ?_)
  | (with_reducible refine i_tru ?_)
  | (with_reducible refine i_dput ?_)
  | (with_reducible refine i_dnotin ?_)
  | (with_reducible refine i_din ?_)
  | (with_reducible refine i_rev ?_)
  | (with_reducible refine i_isi_int_int ?_) | (with_reducible refine i_isi_int_bool ?_) | (with_reducible refine i_isi_int_str ?_) | (with_reducible refine i_isi_int_tuple ?_) | (with_reducible refine i_isi_int_list ?_)
  | (with_reducible refine i_isi_bl_int ?_) | (with_reducible refine i_isi_bl_bool ?_) | (with_reducible refine i_isi_bl_str ?_) | (with_reducible refine i_isi_bl_tuple ?_) | (with_reducible refine i_isi_bl_list ?_)
  | (with_reducible refine i_isi_str_int ?_) | (with_reducible refine i_isi_str_bool ?_) | (with_reducible refine i_isi_str_str ?_) | (with_reducible refine i_isi_str_tuple ?_) | (with_reducible refine i_isi_str_list ?_)
  | (with_reducible refine i_isi_non_int ?_) | (with_reducible refine i_isi_non_bool ?_) | (with_reducible refine i_isi_non_str ?_) | (with_reducible refine i_isi_non_tuple ?_) | (with_reducible refine i_isi_non_list ?_))
local macro_rules | `(tactic| walk_at "go") => `(tactic| (repeat' (walk_at "s")))
local macro_rules | `(tactic| walk_at "n") => `(tactic| simp only [wipe, List.map_cons, List.map_nil, List.set_cons_zero, List.set_cons_succ])
theorem at0_mem {T : List Sit} {i : Nat} (h : i < T.length) : T[i]? = some (at0 T i) ∧ at0 T i ∈ T := by
  have e : at0 T i = T[i] := by unfold at0; rw [List.getD_eq_getElem?_getD, List.getElem?_eq_getElem h]; rfl
  rw [e]
  exact ⟨List.getElem?_eq_getElem h, List.getElem_mem h⟩
theorem led_okA {os : List Od} {s : Sit} (h : SitOK os s) (x : Nat) : SitOK os (led os s x) := by
  cases s with
  | over w => exact h
  | «at» line b i c l => exact led_ok h x
theorem led_wA {os : List Od} (hp : ∀ o ∈ os, posO o) {s : Sit} (h : SitOK os s) (w : SitW os s) (x : Nat) : SitW os (led os s x) := by
  cases s with
  | over w => trivial
  | «at» line b i c l => exact led_w hp h w x
theorem addsS_all {os : List Od} (hp : ∀ o ∈ os, posO o) {s : Sit} (h1 : SitOK os s) (h2 : SitW os s) : ∀ (xs : List Nat) (T : List Sit), (∀ u ∈ T, SitOK os u ∧ SitW os u) → ∀ u ∈ addsS os s T xs, SitOK os u ∧ SitW os u
  | [], T, h => h
  | x :: r, T, h => addsS_all hp h1 h2 r _ fun u hu => by
    rcases addS_mem hu with hu | rfl
    · exact h u hu
    · exact ⟨led_okA h1 x, led_wA hp h1 h2 x⟩
/-- i states have been gone through -/
def Run (os : List Od) (i : Nat) : Prop := ∀ j < i, j < (TT os j).length
theorem TT_all {os : List Od} (hp : ∀ o ∈ os, posO o) : ∀ i, Run os i → ∀ u ∈ TT os i, SitOK os u ∧ SitW os u
  | 0, _, u, h => by
    rw [List.mem_singleton.mp h]
    exact ⟨arr_ok _ _ _ _ _, arr_w hp _ _ _ _ _⟩
  | i + 1, r, u, h => by
    have ih := TT_all hp i fun j hj => r j (by omega)
    obtain ⟨a, b⟩ := ih _ (at0_mem (r i (by omega))).2
    exact addsS_all hp a b SG _ ih u h
theorem rows_good {os : List Od} (hp : ∀ o ∈ os, posO o) (hw : ∀ w, Od.name w ∈ os → isMkL w = true) {n : Nat} (r : Run os n) (hn : n = (TT os n).length) (h400 : n ≤ 400) (h0 : 1 ≤ n) : Good ((List.range n).map (rowJ os)) := by
  have len : ((List.range n).map (rowJ os)).length = n := by rw [List.length_map, List.length_range]
  refine ⟨by omega, by omega, fun x hx => ?_, fun x hx => ?_, fun x hx k hk => ?_⟩
  · obtain ⟨j, hj, rfl⟩ := List.mem_map.mp hx
    have hj := List.mem_range.mp hj
    have m := (TT_all hp j (fun i hi => r i (by omega)) _ (at0_mem (r j hj)).2).1
    show isMkL (wordS (at0 (TT os j) j)) = true
    cases e : at0 (TT os j) j with
    | over w =>
      rw [e] at m
      cases w with
      | none => rfl
      | some w => exact hw w m
    | «at» => rfl
  · obtain ⟨j, hj, rfl⟩ := List.mem_map.mp hx
    rfl
  · obtain ⟨j, hj, rfl⟩ := List.mem_map.mp hx
    have hj := List.mem_range.mp hj
    obtain ⟨c, hc, rfl⟩ := List.mem_map.mp hk
    have h1 := nm_lt (addsS_is os (at0 (TT os j) j) SG (TT os j) c hc)
    have h2 := TT_le os (j + 1) n (by omega)
    have h1 : nm (TT os (j + 1)) (led os (at0 (TT os j) j) c) < (TT os (j + 1)).length := h1
    omega
/-- the situations stand -/
def ThA (A : Hp) (ths : List V) (T : List Sit) : Prop := ths.length = T.length ∧ ∀ (i : Nat) (s : Sit), T[i]? = some s → ∃ a, ths[i]? = some (.ref a) ∧ A a = some (.tup (sitV s))
theorem ThA.same {A A' : Hp} {ths : List V} {T : List Sit} (h : ThA A ths T) (s : Same A A') : ThA A' ths T := by
  refine ⟨h.1, fun i u e => ?_⟩
  obtain ⟨a, e1, e2⟩ := h.2 i u e
  exact ⟨a, e1, s _ _ e2⟩
theorem ThA.app {A : Hp} {ths : List V} {T : List Sit} {a : Addr} {s : Sit} (h : ThA A ths T) (e : A a = some (.tup (sitV s))) : ThA A (ths ++ [.ref a]) (T ++ [s]) := by
  refine ⟨by rw [List.length_append, List.length_append, h.1]; rfl, fun i u e' => ?_⟩
  rcases Nat.lt_or_ge i T.length with hi | hi
  · rw [List.getElem?_append_left hi] at e'
    obtain ⟨b, e1, e2⟩ := h.2 i u e'
    exact ⟨b, by rw [List.getElem?_append_left (by rw [h.1]; exact hi)]; exact e1, e2⟩
  · have hlt := (List.getElem?_eq_some_iff.mp e').1
    rw [List.length_append, List.length_singleton] at hlt
    obtain rfl : i = T.length := by omega
    rw [List.getElem?_append_right (Nat.le_refl _), Nat.sub_self] at e'
    cases e'
    exact ⟨a, by rw [List.getElem?_append_right (by rw [h.1]; exact Nat.le_refl _), h.1, Nat.sub_self]; rfl, e⟩
/-- what stands while the rows are made: things, numbers, rows, as much as they know -/
structure RS (A G0 : Hp) (tp nd rp : Addr) (T : List Sit) (Rs : Rws) (A1 G : Hp) (ths : List V) : Prop where
  ex : Ext A G0 A1 G
  f1 : G0 tp = none
  f2 : G0 nd = none
  f3 : G0 rp = none
  n1 : A1 tp = none
  n2 : A1 nd = none
  n3 : A1 rp = none
  d12 : tp ≠ nd
  d13 : tp ≠ rp
  d23 : nd ≠ rp
  th : G tp = some (.lst ths)
  ta : ThA A1 ths T
  kd : KD T.length G nd (numK T)
  rw : ∃ rws, G rp = some (.lst rws) ∧ AtAll A1 rws (rowsD Rs)
section
variable {A G0 A1 G : Hp} {tp nd rp : Addr} {T : List Sit} {Rs : Rws} {ths : List V}
/-- what is new stands beside it -/
theorem RS.more {A2 G2 : Hp} (h : RS A G0 tp nd rp T Rs A1 G ths) (x : Ext A1 G A2 G2) : RS A G0 tp nd rp T Rs A2 G2 ths := by
  obtain ⟨rws, e, al⟩ := h.rw
  have k := h.kd.some
  exact ⟨h.ex.trans x, h.f1, h.f2, h.f3, x.free h.n1 (by rw [h.th]; simp), x.free h.n2 (by obtain ⟨o, z⟩ := k; rw [z]; simp), x.free h.n3 (by rw [e]; simp), h.d12, h.d13, h.d23, x.gg _ _ h.th, h.ta.same x.aa, h.kd.mono x.gg, rws, x.gg _ _ e, al.same x.aa⟩
/-- a new situation -/
theorem RS.add (h : RS A G0 tp nd rp T Rs A1 G ths) {a : Addr} {s : Sit} {o : HO} (e : A1 a = some (.tup (sitV s))) (k : KD (T ++ [s]).length (upd G nd o) nd (numK (T ++ [s]))) :
    RS A G0 tp nd rp (T ++ [s]) Rs A1 (upd (upd G nd o) tp (.lst (ths ++ [.ref a]))) (ths ++ [.ref a]) := by
  obtain ⟨rws, er, al⟩ := h.rw
  refine ⟨(h.ex.put h.f2 h.n2).put h.f1 h.n1, h.f1, h.f2, h.f3, h.n1, h.n2, h.n3, h.d12, h.d13, h.d23, upd_same, h.ta.app e, k.at (upd_ne h.d12.symm), rws, (upd_ne h.d13.symm).trans ((upd_ne h.d23.symm).trans er), al⟩
end
end K47
namespace K47
open PySem PySem.Spec PyProof.Rows L2 Fg
local macro_rules | `(tactic| walk_at "sq") => `(tactic| first
  | assumption
  | exact .inl (.inl (by assumption))
  | exact .inl (.inl upd_same))
local macro_rules | `(tactic| walk_at "st") => `(tactic| first
  | assumption
  | exact .inl (.inl (by assumption))
  | exact .inl (.inl upd_same))
local macro_rules | `(tactic| walk_at "o") => `(tactic| first
  | omega
  | assumption
  | (simp only [List.length_append, List.length_take, List.length_drop, List.length_cons, List.length_nil, List.length_singleton, List.length_map, List.length_range, Int.toNat_natCast] ; omega))
local macro_rules | `(tactic| walk_at "s") => `(tactic| first
  | (with_reducible refine i_seq ?_)
  | (with_reducible refine i_asg ?_)
  | ((with_reducible refine' i_var ?h1 ?_); (case h1 => rfl))
  | (with_reducible refine i_c ?_)
  | ((with_reducible refine' i_gname' ?h1 ?_); (case h1 => (simp only [List.set_cons_zero, List.set_cons_succ]; rfl)))
  | (with_reducible refine i_op ?_)
  | (with_reducible refine i_ifS ?_)
  | (with_reducible refine i_for ?_)
  | (with_reducible refine i_test ?_)
  | (with_reducible refine i_B ?_)
  | (with_reducible refine i_exbl ?_)
  | (with_reducible refine i_exint ?_)
  | (with_reducible refine i_cb ?_)
  | (with_reducible refine i_nil ?_)
  | (with_reducible refine i_cons ?_)
  | (with_reducible refine i_ret ?_)
  | (with_reducible refine i_sl ?_)
  | (with_reducible refine i_nopart ?_)
  | (with_reducible refine i_part ?_)
  | (with_reducible refine i_add_int ?_)
  | (with_reducible refine i_sub ?_)
  | (with_reducible refine i_lt ?_)
  | ((with_reducible refine' i_mod ?h1 ?_); (case h1 => walk_at "o"))
  | ((with_reducible refine' i_fdiv ?h1 ?_); (case h1 => (refine cdiv_small ?_ ?_ <;> walk_at "o")))
  | ((with_reducible refine' i_sl_to ?h1 ?h2 ?_); (case h1 => walk_at "o"); (case h2 => walk_at "o"))
  | ((with_reducible refine' i_sl_from ?h1 ?h2 ?_); (case h1 => walk_at "o"); (case h2 => walk_at "o"))
  | ((with_reducible refine' i_add_str ?h1 ?_); (case h1 => walk_at "o"))
  | ((with_reducible refine' i_mul_int ?h1 ?_); (case h1 => first | (refine mul_small ?_ ?_ <;> walk_at "o") | (refine mul_smallR ?_ ?_ <;> walk_at "o")))
  | (with_reducible refine i_le ?_)
  | (with_reducible refine i_gt ?_)
  | (with_reducible refine i_ge ?_)
  | (with_reducible refine i_eq_int ?_)
  | (with_reducible refine i_eq_str ?_)
  | (with_reducible refine i_ne_int ?_)
  | (with_reducible refine i_ne_str ?_)
  | (with_reducible refine i_eq_bl ?_)
  | (with_reducible refine i_ne_bl ?_)
  | (with_reducible refine i_in_sg ?_)
  | (with_reducible refine i_notIn_sg ?_)
  | (with_reducible refine i_call ?_)
  | (with_reducible refine i_callS ?_)
  | (with_reducible refine i_sp1 ?_)
  | (with_reducible refine i_sp2 ?_)
  | (with_reducible refine i_sp3 ?_)
  | (with_reducible refine i_sp4 ?_)
  | (with_reducible refine i_sp1' ?_)
  | (with_reducible refine i_sp2' ?_)
  | (with_reducible refine i_sp3' ?_)
  | ((with_reducible refine' i_ix_lst ?h1 ?h2 ?_); (case h1 => walk_at "sq"); (case h2 => first | exact atI_nat rfl | rfl))
  | ((with_reducible refine' i_ix_tup ?h1 ?h2 ?_); (case h1 => walk_at "st"); (case h2 => first | exact atI_nat rfl | rfl))
  | (with_reducible refine i_gsub ?_)
  | (with_reducible refine i_par ?_)
  | (with_reducible refine i_lstRg1 ?_)
  | (with_reducible refine i_app ?_)
  | (with_reducible refine i_par2 ?_)
  | ((with_reducible refine' i_aug ?h1 ?_); (case h1 => rfl))
  | (with_reducible refine i_ipI ?_)
  | ((with_reducible refine' i_gtup2 ?h1 ?_); (case h1 => walk_at "st"))
  | (with_reducible refine i_int_bl ?_)
  | (with_reducible refine i_raise ?_)
  | (with_reducible refine i_mkE ?_)
  | (with_reducible refine i_ex1 ?_)
  | (with_reducible refine i_and ?_)
  | (with_reducible refine i_or ?_)
  | (with_reducible refine i_not ?_)
  | (with_reducible refine i_tt ?_)
  | (with_reducible refine i_ff ?_)
  | (with_reducible refine i_nott ?_)
  | (with_reducible refine i_notf ?_)
  | (with_reducible refine i_andV ?_)
  | (with_reducible refine i_orV ?_)
  | (with_reducible refine i_notV ?_)
  | (with_reducible refine i_ifE ?_)
  | (with_reducible refine i_tup ?_)
  | (with_reducible refine i_lst ?_)
  | (with_reducible refine i_un ?_)
  | (with_reducible refine i_neg ?_)
  | (with_reducible refine i_chain ?_)
  | (with_reducible refine i_next ?_)
  | (with_reducible refine i_retN ?_)
  | (with_reducible refine i_drop ?_)
  | (with_reducible refine i_int_int ?_)
  | (with_reducible refine i_abs ?_)
  | (with_reducible refine i_m1c ?_)
  | (with_reducible refine i_is_non ?_)
  | (with_reducible refine i_is_int ?_)
  | (with_reducible refine i_is_bl ?_)
  | (with_reducible refine i_isn_bl ?_)
  | (with_reducible refine i_is_str ?_)
  | (with_reducible refine i_is_ref ?_)
  | (with_reducible refine i_isn_non ?_)
  | (with_reducible refine i_isn_int ?_)
  | (with_reducible refine i_isn_str ?_)
  | (with_reducible refine i_isn_ref ?_)
  | (with_reducible refine i_len_str ?h1 ?_; (case h1 => walk_at "o"))
  | (with_reducible refine i_callD ?_)
  | (with_reducible refine i_spD2 ?_)
  | (with_reducible refine i_spM1 ?_)
  | (with_reducible refine i_spM2 ?_)
  | (with_reducible refine i_spM3 ?_)
  | (with_reducible refine i_spM4 ?_)
  | (with_reducible refine i_spM3d ?_)
  | (with_reducible refine i_tfld ?_)
  | (with_reducible refine i_sfld ?_)
  | (with_reducible refine i_meth ?_)
  | (with_reducible refine i_make ?_)
  | (with_reducible refine i_spl ?_)
  | (with_reducible refine i_mkE2 ?_)
  | (with_reducible refine i_ex2 ?_)
  | (with_reducible refine i_dget ?_)
  | (with_reducible refine i_tru ?_)
  | (with_reducible refine i_dput ?_)
  | (with_reducible refine i_dnotin ?_)
  | (with_reducible refine i_din ?_)
  | (with_reducible refine i_rev ?_)
  | (with_reducible refine i_isi_int_int ?_) | (with_reducible refine i_isi_int_bool ?_) | (with_reducible refine i_isi_int_str ?_) | (with_reducible refine i_isi_int_tuple ?_) | (with_reducible refine i_isi_int_list ?_)
  | (with_reducible refine i_isi_bl_int ?_) | (with_reducible refine i_isi_bl_bool ?_) | (with_reducible refine i_isi_bl_str ?_) | (with_reducible refine i_isi_bl_tuple ?_) | (with_reducible refine i_isi_bl_list ?_)
  | (with_reducible refine i_isi_str_int ?_) | (with_reducible refine i_isi_str_bool ?_) | (with_reducible refine i_isi_str_str ?_) | (with_reducible refine i_isi_str_tuple ?_) | (with_reducible refine i_isi_str_list ?_)
  | (with_reducible refine i_isi_non_int ?_) | (with_reducible refine i_isi_non_bool ?_) | (with_reducible refine i_isi_non_str ?_) | (with_reducible refine i_isi_non_tuple ?_) | (with_reducible refine i_isi_non_list ?_))
local macro_rules | `(tactic| walk_at "go") => `(tactic| (repeat' (walk_at "s")))
local macro_rules | `(tactic| walk_at "n") => `(tactic| simp only [wipe, List.map_cons, List.map_nil, List.set_cons_zero, List.set_cons_succ])
/-- the rows of the reader of these orders, if there are at most so many; none otherwise -/
def RowsOf (os : List Od) (most : Nat) (R : Rws) : Prop :=
  (R = [] ∧ ∃ i, Run os (i + 1) ∧ (TT os i).length ≤ most ∧ most < (TT os (i + 1)).length) ∨ ∃ n, Run os n ∧ n = (TT os n).length ∧ n ≤ most ∧ 1 ≤ n ∧ R = (List.range n).map (rowJ os)
section
variable {A G A1 G1 G2 : Hp} {p : Addr} {o : HO}
/-- what a call has made is known -/
theorem ext_got (x : Ext A G A1 G1) (s : Same G1 G2) (n : G1 p = none) (e : G2 p = some o) : Ext A G (upd A1 p o) G2 := by
  have na : A1 p = none := x.ag.free n
  refine ⟨x.aa.trans (same_upd na), fun b u e' => ?_, x.gg.trans s, fun b h1 h2 => ?_⟩
  · by_cases hb : b = p
    · rw [hb, upd_same] at e'
      rw [hb, e]; exact e'
    · rw [upd_ne hb] at e'
      exact s _ _ (x.ag _ _ e')
  · by_cases hb : b = p
    · rw [hb]; exact x.gg.free n
    · rw [upd_ne hb] at h2
      exact x.nw b h1 h2
theorem ext_grow (x : Ext A G A1 G1) (s : Same G1 G2) : Ext A G A1 G2 := ⟨x.aa, x.ag.trans s, x.gg.trans s, x.nw⟩
end
theorem addsS_get (os : List Od) (s : Sit) : ∀ (xs : List Nat) (T : List Sit) (i : Nat), i < T.length → (addsS os s T xs)[i]? = T[i]?
  | [], T, i, h => rfl
  | x :: r, T, i, h => by
    have z := addS_len T (led os s x)
    refine (addsS_get os s r (addS T (led os s x)) i (by omega)).trans ?_
    unfold addS
    split
    · rfl
    · exact List.getElem?_append_left h
section
variable {P : Program} {w : World} {K : PySem.W.Frag} {mg : Str → Option Value} {base : Heap} {C_GlimError C_BadRow C_BadReader C_Reader : Addr}
def p_L_rows_of : P2 := fun x y H Q _ => ∃ A t os, ∃ most : Nat, x = .ref t ∧ y = .int (most : Int) ∧ Same A H ∧ OrdL H t os ∧ os.length ≤ 20 ∧ 1 ≤ most ∧ most ≤ 1000 ∧ (∀ o ∈ os, posO o) ∧ (∀ w, Od.name w ∈ os → w.length ≤ 1000) ∧ ∀ A' H' r R, Ext A H A' H' → H r = none → At A' (.ref r) (.list (rowsD R)) → RowsOf os most R → Q (.ref r) H'
theorem ok_L_rows_of (T : Txt K mg C_GlimError C_BadRow C_BadReader C_Reader) : OK P w K mg base CX0 3 "_law_rows_of" ["_law_lines_here", "_law_most"] (sp2  p_L_rows_of) := by
  refine OK.mk (k := 2) T.d_L_rows_of sc_L_rows_of len2 fun f cdv A outer s H vs Q E hr h => ?_
  obtain ⟨x, y, rfl, h⟩ := h
  refine ⟨_, (pss_cons (ps_set (i := 2) sc_L_rows_of.nd rfl (Or.inl rfl) (pe_lst (pa_cons (pe_f (ok_L_settled (K := K) T) (hr.mono (by decide)) pass0 (pa_cons (pv 0) (pa_cons pe_int (pa_cons pe_int (pa_cons (pe_S []) pa_nil))))) pa_nil))) (pss_cons (ps_set (i := 3) sc_L_rows_of.nd rfl (Or.inl rfl) (Fg.pe_disp1T (hu_of hr) (pe_ix (ixK K) (pv 2) pe_int (fun _ _ => rfl)) pe_int)) (pss_cons (ps_set (i := 4) sc_L_rows_of.nd rfl (Or.inl rfl) (pe_lst pa_nil)) (pss_cons (ps_set (i := 5) sc_L_rows_of.nd rfl (Or.inl rfl) pe_int) (pss_cons (ps_while PassesOwn.never (pt_cmpR op_ltP (pv 5) (pe_callB (cLen K) (by rfl) T.b_len (by decide +kernel) (pa_cons (pv 2) pa_nil)) (nomark _)) (pss_cons (ps_set (i := 6) sc_L_rows_of.nd rfl (Or.inl rfl) (pe_lst pa_nil)) (pss_cons (ps_for PassesOwn.never rfl (piAny K (pe_S [46, 103, 114, 119])) (pg_name (i := 7) sc_L_rows_of.nd rfl (Or.inl rfl)) (pss_cons (ps_set (i := 8) sc_L_rows_of.nd rfl (Or.inl rfl) (pe_f (ok_L_stepped (K := K) T) (hr.mono (by decide)) pass0 (pa_cons (pv 0) (pa_cons (pe_ix (ixK K) (pv 2) (pv 5) (fun _ _ => rfl)) (pa_cons (pv 7) pa_nil))))) (pss_cons (ps_if (pt_cmp (pc_dnotin (hu_of hr) (pv 8) (pv 3))) (pss_cons (ps_if (pt_cmpR (opEq K hr.units) (pe_callB (cLen K) (by rfl) T.b_len (by decide +kernel) (pa_cons (pv 2) pa_nil)) (pv 1) (nomark _)) (pss_one (ps_ret (pe_lst pa_nil))) pss_nil) (pss_cons (ps_dput (hu_of hr) (pv 3) (pv 8) (pe_callB (cLen K) (by rfl) T.b_len (by decide +kernel) (pa_cons (pv 2) pa_nil)) rfl) (pss_one (ps_expr (peApp K (pv 2) (pa_cons (pv 8) pa_nil)))))) pss_nil) (pss_one (ps_expr (peApp K (pv 6) (pa_cons (pe_dget (hu_of hr) (pv 3) (pv 8) (fun _ _ => rfl)) pa_nil))))))) (pss_cons (ps_set (i := 9) sc_L_rows_of.nd rfl (Or.inl rfl) (pe_S [])) (Evl.pss_cut (ps_if (pt_cmpR (opEq K hr.units) (pe_ix (ixK K) (pe_ix (ixK K) (pv 2) (pv 5) (fun _ _ => rfl)) pe_int (fun _ _ => rfl)) (pe_un un_neg pe_int) (nomark _)) (pss_one (ps_set (i := 9) sc_L_rows_of.nd rfl (Or.inl rfl) (pe_ix (ixK K) (pe_ix (ixK K) (pv 2) (pv 5) (fun _ _ => rfl)) pe_int (fun _ _ => rfl)))) pss_nil) (pss_cons (ps_expr (peApp K (pv 4) (pa_cons (pe_tup (pa_cons (pv 9) (pa_cons (pe_callTy (cTup K) (by rfl) T.b_tuple (by decide +kernel) (pa_cons (pv 6) pa_nil)) pa_nil))) pa_nil))) (pss_one (ps_set (i := 5) sc_L_rows_of.nd rfl (Or.inl rfl) (pe_op (opAdd K) (pv 5) pe_int))))))))) (pss_one (ps_ret (pv 4)))))))), ?_⟩
  show (_ : TS) { nx := fun _ H' => Q .non H', rt := Q } [some x, some y, none, none, none, none, none, none, none, none] H
  obtain ⟨A, t, os, most, rfl, rfl, sA, ho, h20, m1, m2, hp, hw, q⟩ := h
  walk_at "go"
  refine ⟨t, os, 0, 0, none, rfl, ho, h20, rfl, rfl, rfl, fun s0 H1 ns0 s1 hs0 => ?_⟩
  walk_at "go"
  refine i_new (by show 1 ≤ 100000; omega) fun tp ntp => ?_
  walk_at "go"
  have ntp' := s1.free ntp
  refine i_disp1T fun nd nnd => ?_
  have dtn : tp ≠ nd := ne_of_none upd_same nnd
  have nnd1 : H1 nd = none := by rw [upd_ne dtn.symm] at nnd; exact nnd
  walk_at "go"
  refine i_ix_lst (v := .ref s0) (.inl (.inl ((upd_ne dtn).trans upd_same))) rfl ?_
  walk_at "go"
  refine kd_disp (k := sitK (arr os (os.length + 1) [] 0 0 none)) upd_same ?_ fun o0 kd0 => ?_
  · rw [sitK_V, upd_ne (ne_of_none ((upd_ne (ne_of_none hs0 ntp)).trans hs0) nnd), upd_ne (ne_of_none hs0 ntp)]
    exact hs0
  rw [numK_one, upd_upd] at kd0
  rw [upd_upd]
  walk_at "go"
  refine i_new (by show 0 ≤ 100000; omega) fun rp nrp => ?_
  walk_at "go"
  have drt : tp ≠ rp := ne_of_none ((upd_ne dtn).trans upd_same) nrp
  have drn : nd ≠ rp := ne_of_none upd_same nrp
  have x1 : Ext A H (upd A s0 (.tup (sitV (arr os (os.length + 1) [] 0 0 none)))) H1 := ext_got (Ext.refl sA) s1 ns0 hs0
  have a1t := x1.ag.free ntp
  have a1n := x1.ag.free nnd1
  have nrp1 : H1 rp = none := by rw [upd_ne drn.symm, upd_ne drt.symm] at nrp; exact nrp
  have a1r := x1.ag.free nrp1
  have rs0 : RS A H tp nd rp (TT os 0) [] (upd A s0 (.tup (sitV (arr os (os.length + 1) [] 0 0 none)))) (upd (upd (upd H1 tp (.lst [.ref s0])) nd o0) rp (.lst [])) [.ref s0] := by
    have y := ((x1.hid (o := .lst [.ref s0]) ntp).put (o := o0) (s1.free nnd1) a1n).put (p := rp) (o := .lst []) (s1.free nrp1) a1r
    exact ⟨y, ntp', s1.free nnd1, s1.free nrp1, a1t, a1n, a1r, dtn, drt, drn, (upd_ne drt).trans ((upd_ne dtn).trans upd_same), ⟨rfl, fun i s e => by
      match i, e with
      | 0, e => cases e; exact ⟨s0, rfl, upd_same⟩
      | i + 1, e => exact absurd e (by simp [TT])⟩, kd0.at (upd_ne drn), [], upd_same, .nil⟩
  generalize upd (upd (upd H1 tp (.lst [.ref s0])) nd o0) rp (.lst []) = G0 at *
  generalize upd A s0 (.tup (sitV (arr os (os.length + 1) [] 0 0 none))) = A0 at *
  clear kd0 nrp nnd x1
  refine i_while (fun m σ G => ∃ i v6 v7 v8 v9 A1 ths, σ = [some (.ref t), some (.int (most : Int)), some (.ref tp), some (.ref nd), some (.ref rp), some (.int ((i : Nat) : Int)), v6, v7, v8, v9] ∧ m + i = most ∧ Run os i ∧ (TT os i).length ≤ most ∧ i ≤ (TT os i).length ∧ RS A H tp nd rp (TT os i) ((List.range i).map (rowJ os)) A1 G ths)
    most ⟨0, none, none, none, none, A0, _, rfl, by omega, fun j hj => absurd hj (Nat.not_lt_zero _), by show 1 ≤ most; omega, Nat.zero_le _, rs0⟩ ?_
  rintro m σ G ⟨i, v6, v7, v8, v9, A1, ths, rfl, hm, run, hT, hi, rs⟩
  walk_at "go"
  refine i_len_lst (.inl (.inl rs.th)) ?_
  walk_at "go"
  rw [rs.ta.1]
  refine i_dec (fun e1 => ?_) (fun e1 => ?_)
  rotate_left
  · walk_at "go"
    obtain ⟨rws, er, al⟩ := rs.rw
    have e : i = (TT os i).length := by omega
    refine q _ G rp _ (rs.ex.show rs.f3 sA er) rs.f3 (At.mkLst upd_same (al.same (same_upd rs.n3)) (by unfold rowsD; rw [List.length_map, List.length_map, List.length_range]; omega)) (.inr ⟨i, run, e, by omega, ?_, rfl⟩)
    have := TT_le os 0 i (Nat.zero_le _)
    have z : (TT os 0).length = 1 := rfl
    omega
  have lt : i < (TT os i).length := by omega
  obtain ⟨m, rfl⟩ : ∃ m', m = m' + 1 := ⟨m - 1, by omega⟩
  refine i_turn ?_
  walk_at "go"
  refine i_new (by show 0 ≤ 100000; omega) fun np nnp => ?_
  walk_at "go"
  have a1p : A1 np = none := rs.ex.ag.free nnp
  have hnp : H np = none := rs.ex.gg.free nnp
  have dpt : tp ≠ np := ne_of_none rs.th nnp
  have dpn : nd ≠ np := by
    obtain ⟨o, z⟩ := rs.kd.some
    exact ne_of_none z nnp
  have dpr : rp ≠ np := by
    obtain ⟨o, z, _⟩ := rs.rw
    exact ne_of_none z nnp
  have rs := rs.more ((Ext.refl rs.ex.ag).hid (o := .lst []) nnp)
  have hnl : (upd G np (.lst [])) np = some (.lst []) := upd_same
  generalize upd G np (.lst []) = G1 at *
  have e0 := (at0_mem lt).1
  have okA := TT_all hp i run _ (at0_mem lt).2
  generalize hs : at0 (TT os i) i = s at *
  have eT : TT os (i + 1) = addsS os s (TT os i) SG := by rw [← hs]; rfl
  have eR : rowJ os i = (wordS s, SG.map fun x => nm (addsS os s (TT os i) SG) (led os s x)) := by rw [← eT, ← hs]; rfl
  have run1 : Run os (i + 1) := fun j hj => by
    rcases Nat.lt_or_ge j i with h | h
    · exact run j h
    · obtain rfl : j = i := by omega
      exact lt
  generalize hTi : TT os i = T at *
  refine i_forS (z := SG) (fun k σ G => ∃ v7 v8 v9 A2 ths2, σ = [some (.ref t), some (.int (most : Int)), some (.ref tp), some (.ref nd), some (.ref rp), some (.int (i : Int)), some (.ref np), v7, v8, v9] ∧
    RS A H tp nd rp (addsS os s T (SG.take k)) ((List.range i).map (rowJ os)) A2 G ths2 ∧ A2 np = none ∧ G np = some (.lst ((SG.take k).map fun x => V.int (nm (addsS os s T (SG.take k)) (led os s x) : Int))) ∧ (addsS os s T (SG.take k)).length ≤ most) ⟨v7, v8, v9, A1, ths, rfl, rs, a1p, hnl, hT⟩ ?_ ?_
  · rintro k x σ G2 hk ⟨v7, v8, v9, A2, ths2, rfl, rs, a2p, hnl, hT2⟩
    show (_ : TS) _ [some (.ref t), some (.int (most : Int)), some (.ref tp), some (.ref nd), some (.ref rp), some (.int (i : Int)), some (.ref np), some (S [x]), v8, v9] G2
    have tk : SG.take (k + 1) = SG.take k ++ [x] := by rw [List.take_succ, hk]; rfl
    have eA : addsS os s T (SG.take (k + 1)) = addS (addsS os s T (SG.take k)) (led os s x) := by rw [tk, addsS_app]
    have old : ∀ y ∈ SG.take k, isT (addsS os s T (SG.take k)) (led os s y) = true := fun y hy => addsS_is os s _ T y hy
    have g0 : (addsS os s T (SG.take k))[i]? = some s := (addsS_get os s (SG.take k) T i lt).trans e0
    have top : (addS (addsS os s T (SG.take k)) (led os s x)).length ≤ (addsS os s T SG).length := by
      rw [← eA]
      have e : SG = SG.take (k + 1) ++ SG.drop (k + 1) := (List.take_append_drop _ _).symm
      have z := (addsS_len os s (SG.drop (k + 1)) (addsS os s T (SG.take (k + 1)))).1
      have : addsS os s (addsS os s T (SG.take (k + 1))) (SG.drop (k + 1)) = addsS os s T SG := by
        unfold addsS
        rw [← List.foldl_append, List.take_append_drop]
      rw [this] at z
      exact z
    rw [eA, tk]
    generalize addsS os s T (SG.take k) = Tk at *
    obtain ⟨st, hst1, hst2⟩ := rs.ta.2 i s g0
    walk_at "go"
    refine i_ix_lst (.inl (.inl rs.th)) (atI_nat hst1) ?_
    walk_at "go"
    refine ⟨t, st, os, s, x, rfl, rfl, rfl, ho.same rs.ex.gg, h20, rs.ex.ag _ _ hst2, okA.1, okA.2, fun r G3 nr s3 er => ?_⟩
    obtain ⟨A3, y3, a3r, a3p⟩ : ∃ A3, Ext A2 G2 A3 G3 ∧ A3 r = some (.tup (sitV (led os s x))) ∧ A3 np = none := by
      rcases nr with nr | rfl
      · refine ⟨_, ext_got (Ext.refl rs.ex.ag) s3 nr er, upd_same, ?_⟩
        rw [upd_ne (fun z => by rw [← z, hnl] at nr; cases nr)]; exact a2p
      · have e1 := s3 _ _ (rs.ex.ag _ _ hst2)
        rw [er] at e1
        exact ⟨A2, ext_grow (Ext.refl rs.ex.ag) s3, by rw [e1]; exact hst2, a2p⟩
    have rs3 := rs.more y3
    have hnl3 := y3.gg _ _ hnl
    have hr3 := rs3.ex.ag _ _ a3r
    have hb : G3 r = some (.tup ((sitK (led os s x)).map kV)) := by rw [sitK_V]; exact hr3
    clear rs y3 hnl er s3 nr
    walk_at "go"
    refine kd_askT rs3.kd hb ?_
    rw [numK_is]
    have nums : ∀ {T2 : List Sit}, (∀ y ∈ SG.take k, nm T2 (led os s y) = nm Tk (led os s y)) → ((SG.take k).map fun y => V.int (nm Tk (led os s y) : Int)) ++ [.int (nm T2 (led os s x) : Int)] = ((SG.take k ++ [x]).map fun y => V.int (nm T2 (led os s y) : Int)) := fun h => by
      rw [List.map_append]
      congr 1
      exact List.map_congr_left fun y hy => by rw [h y hy]
    have klen : ((SG.take k).map fun y => V.int (nm Tk (led os s y) : Int)).length < 100000 := by
      rw [List.length_map, List.length_take]
      have : SG.length = 4 := rfl
      omega
    cases et : isT Tk (led os s x) with
    | true =>
      have ea : addS Tk (led os s x) = Tk := if_pos et
      rw [ea]
      walk_at "go"
      refine i_appAt hnl3 ?_
      walk_at "go"
      refine kd_get rs3.kd hb (numK_nm et) ?_
      walk_at "go"
      refine i_appEnd hnl3 klen ?_
      rw [nums fun _ _ => rfl]
      obtain ⟨rws, er, al⟩ := rs3.rw
      exact ⟨_, _, _, A3, ths2, rfl, ⟨rs3.ex.put hnp a3p, rs3.f1, rs3.f2, rs3.f3, rs3.n1, rs3.n2, rs3.n3, rs3.d12, rs3.d13, rs3.d23, (upd_ne dpt).trans rs3.th, rs3.ta, rs3.kd.at (upd_ne dpn), rws, (upd_ne dpr).trans er, al⟩, a3p, upd_same, hT2⟩
    | false =>
      have ea : addS Tk (led os s x) = Tk ++ [led os s x] := if_neg (by rw [et]; decide)
      rw [ea] at top ⊢
      walk_at "go"
      refine i_len_lst (.inl (.inl rs3.th)) ?_
      walk_at "go"
      rw [rs3.ta.1]
      refine i_dec (fun e5 => ?_) (fun e5 => ?_)
      · walk_at "go"
        refine i_new (by show 0 ≤ 100000; omega) fun r0 nr0 => ?_
        refine q _ _ r0 [] (rs3.ex.new nr0) (rs3.ex.gg.free nr0) (At.mkLst upd_same .nil (by show 0 ≤ 10000; omega)) (.inl ⟨rfl, i, run1, by rw [hTi]; exact hT, ?_⟩)
        rw [eT]
        rw [List.length_append, List.length_singleton] at top
        omega
      walk_at "go"
      refine i_len_lst (.inl (.inl rs3.th)) ?_
      rw [rs3.ta.1]
      walk_at "go"
      refine kd_put rs3.kd hb (by omega) fun o4 kd4 => ?_
      rw [numK_put et] at kd4
      have kd4 : KD (Tk ++ [led os s x]).length (upd G3 nd o4) nd (numK (Tk ++ [led os s x])) := by rw [List.length_append, List.length_singleton]; exact kd4
      have th4 : upd G3 nd o4 tp = some (.lst ths2) := (upd_ne rs3.d12).trans rs3.th
      walk_at "go"
      refine i_appAt th4 ?_
      walk_at "go"
      refine i_appEnd th4 (by rw [rs3.ta.1]; omega) ?_
      have rs4 := rs3.add a3r kd4
      have hb4 : (upd (upd G3 nd o4) tp (.lst (ths2 ++ [.ref r]))) r = some (.tup ((sitK (led os s x)).map kV)) := by rw [sitK_V]; exact rs4.ex.ag _ _ a3r
      have hnl4 : (upd (upd G3 nd o4) tp (.lst (ths2 ++ [.ref r]))) np = _ := (upd_ne dpt.symm).trans ((upd_ne dpn.symm).trans hnl3)
      generalize upd (upd G3 nd o4) tp (.lst (ths2 ++ [.ref r])) = G5 at *
      have et5 : isT (Tk ++ [led os s x]) (led os s x) = true := by rw [← ea]; exact isT_add _ _
      walk_at "go"
      refine i_appAt hnl4 ?_
      walk_at "go"
      refine kd_get rs4.kd hb4 (numK_nm et5) ?_
      walk_at "go"
      refine i_appEnd hnl4 klen ?_
      rw [nums fun y hy => by rw [← ea]; exact nm_mono (old y hy) _]
      obtain ⟨rws, er, al⟩ := rs4.rw
      exact ⟨_, _, _, A3, _, rfl, ⟨rs4.ex.put hnp a3p, rs4.f1, rs4.f2, rs4.f3, rs4.n1, rs4.n2, rs4.n3, rs4.d12, rs4.d13, rs4.d23, (upd_ne dpt).trans rs4.th, rs4.ta, rs4.kd.at (upd_ne dpn), rws, (upd_ne dpr).trans er, al⟩, a3p, upd_same, by rw [List.length_append, List.length_singleton]; omega⟩
  · rintro σ G2 ⟨v7, v8, v9, A2, ths2, rfl, rs, a2p, hnl, hT2⟩
    have tk : SG.take SG.length = SG := List.take_length
    rw [tk] at rs hnl hT2
    have g0 : (addsS os s T SG)[i]? = some s := (addsS_get os s SG T i lt).trans e0
    have lenT := (addsS_len os s SG T).1
    generalize addsS os s T SG = T2 at *
    obtain ⟨st, hst1, hst2⟩ := rs.ta.2 i s g0
    have hstG := rs.ex.ag _ _ hst2
    have hth := rs.th
    refine i_next ?_
    walk_at "go"
    refine i_cut (fun σ G => ∃ v7 v8, σ = [some (.ref t), some (.int (most : Int)), some (.ref tp), some (.ref nd), some (.ref rp), some (.int (i : Int)), some (.ref np), v7, v8, some (S (wordS s))] ∧ G = G2) ?_ ?_
    · walk_at "go"
      refine i_ix_lst (.inl (.inl hth)) (atI_nat hst1) ?_
      walk_at "go"
      cases s with
      | over w =>
        dsimp only [sitV] at hstG
        walk_at "go"
        refine i_dec (fun _ => ?_) (fun e => absurd rfl e)
        walk_at "go"
        refine i_ix_lst (.inl (.inl hth)) (atI_nat hst1) ?_
        walk_at "go"
        exact ⟨v7, v8, rfl, rfl⟩
      | «at» line b i' c l =>
        dsimp only [sitV] at hstG
        walk_at "go"
        refine i_dec (fun e => absurd e (by omega)) (fun _ => ?_)
        exact ⟨v7, v8, rfl, rfl⟩
    rintro σ G3 ⟨v7, v8, rfl, rfl⟩
    obtain ⟨rws, er, al⟩ := rs.rw
    have rl : rws.length = i := by rw [al.len]; unfold rowsD; rw [List.length_map, List.length_map, List.length_range]
    walk_at "go"
    refine i_appAt er ?_
    walk_at "go"
    refine i_tuple_lst (.inl (.inl hnl)) fun l1 nl1 => ?_
    walk_at "go"
    refine i_new (by show 2 ≤ 100000; omega) fun l2 nl2 => ?_
    walk_at "go"
    have y : Ext A2 G3 _ _ := ((Ext.refl rs.ex.ag).new nl1 (o := .tup (SG.map fun x => V.int (nm T2 (led os s x) : Int)))).new (o := .tup [S (wordS s), .ref l1]) nl2
    have rs2 := rs.more y
    obtain ⟨rws2, er2, al2⟩ := rs2.rw
    have wl : (wordS s).length ≤ 10000 := by
      cases s with
      | over w =>
        cases w with
        | none => exact Nat.zero_le _
        | some w => exact Nat.le_trans (hw w okA.1) (by decide)
      | «at» => exact Nat.zero_le _
    have d12 : l1 ≠ l2 := ne_of_none upd_same nl2
    have row : At (upd (upd A2 l1 (.tup (SG.map fun x => V.int (nm T2 (led os s x) : Int)))) l2 (.tup [S (wordS s), .ref l1])) (.ref l2) (rowD (rowJ os i)) := by
      rw [eR]
      refine At.mkTup upd_same (.cons (.str _ wl) (.one (At.mkTup ((upd_ne d12).trans upd_same) ?_ (by rw [List.length_map]; show 4 ≤ 10000; decide)))) (by show 2 ≤ 10000; decide)
      rw [List.map_map]
      exact AtAll.map (fun x => At.int _) SG
    refine i_appEnd er2 (by have := al2.len; unfold rowsD at this; rw [List.length_map, List.length_map, List.length_range] at this; omega) ?_
    walk_at "go"
    refine ⟨m, Nat.lt_succ_self _, i + 1, _, _, _, _, upd (upd A2 l1 (.tup (SG.map fun x => V.int (nm T2 (led os s x) : Int)))) l2 (.tup [S (wordS s), .ref l1]), ths2, rfl, by omega, run1, by rw [eT]; exact hT2, by rw [eT]; omega, ?_⟩
    rw [eT, List.range_succ, List.map_append]
    refine ⟨rs2.ex.put rs2.f3 rs2.n3, rs2.f1, rs2.f2, rs2.f3, rs2.n1, rs2.n2, rs2.n3, rs2.d12, rs2.d13, rs2.d23, (upd_ne rs2.d13).trans rs2.th, rs2.ta, rs2.kd.at (upd_ne rs2.d23), _, upd_same, ?_⟩
    have e : rowsD (List.map (rowJ os) (List.range i) ++ List.map (rowJ os) [i]) = rowsD ((List.range i).map (rowJ os)) ++ [rowD (rowJ os i)] := by
      unfold rowsD
      rw [List.map_append]; rfl
    rw [e]
    exact al2.app (.one row)
end
end K47
namespace K47
open PySem PySem.Spec PyProof.Rows L2 Fg
local macro_rules | `(tactic| walk_at "sq") => `(tactic| first
  | assumption
  | exact .inl (.inl (by assumption))
  | exact .inl (.inl upd_same))
local macro_rules | `(tactic| walk_at "st") => `(tactic| first
  | assumption
  | exact .inl (.inl (by assumption))
  | exact .inl (.inl upd_same))
local macro_rules | `(tactic| walk_at "o") => `(tactic| first
  | omega
  | assumption
  | (simp only [List.length_append, List.length_take, List.length_drop, List.length_cons, List.length_nil, List.length_singleton, List.length_map, List.length_range, Int.toNat_natCast] ; omega))
local macro_rules | `(tactic| walk_at "s") => `(tactic| first
  | (with_reducible refine i_seq ?_)
  | (with_reducible refine i_asg ?_)
  | ((with_reducible refine' i_var ?h1 ?_); (case h1 => rfl))
  | (with_reducible refine i_c ?_)
  | ((with_reducible refine' i_gname' ?h1 ?_); (case h1 => (simp only [List.set_cons_zero, List.set_cons_succ]; rfl)))
  | (with_reducible refine i_op ?_)
  | (with_reducible refine i_ifS ?_)
  | (with_reducible refine i_for ?_)
  | (with_reducible refine i_test ?_)
  | (with_reducible refine i_B ?_)
  | (with_reducible refine i_exbl ?_)
  | (with_reducible refine i_exint ?_)
  | (with_reducible refine i_cb ?_)
  | (with_reducible refine i_nil ?_)
  | (with_reducible refine i_cons ?_)
  | (with_reducible refine i_ret ?_)
  | (with_reducible refine i_sl ?_)
  | (with_reducible refine i_nopart ?_)
  | (with_reducible refine i_part ?_)
  | (with_reducible refine i_add_int ?_)
  | (with_reducible refine i_sub ?_)
  | (with_reducible refine i_lt ?_)
  | ((with_reducible refine' i_mod ?h1 ?_); (case h1 => walk_at "o"))
  | ((with_reducible refine' i_fdiv ?h1 ?_); (case h1 => (refine cdiv_small ?_ ?_ <;> walk_at "o")))
  | ((with_reducible refine' i_sl_to ?h1 ?h2 ?_); (case h1 => walk_at "o"); (case h2 => walk_at "o"))
  | ((with_reducible refine' i_sl_from ?h1 ?h2 ?_); (case h1 => walk_at "o"); (case h2 => walk_at "o"))
  | ((with_reducible refine' i_add_str ?h1 ?_); (case h1 => walk_at "o"))
  | ((with_reducible refine' i_mul_int ?h1 ?_); (case h1 => first | (refine mul_small ?_ ?_ <;> walk_at "o") | (refine mul_smallR ?_ ?_ <;> walk_at "o")))
  | (with_reducible refine i_le ?_)
  | (with_reducible refine i_gt ?_)
  | (with_reducible refine i_ge ?_)
  | (with_reducible refine i_eq_int ?_)
  | (with_reducible refine i_eq_str ?_)
  | (with_reducible refine i_ne_int ?_)
  | (with_reducible refine i_ne_str ?_)
  | (with_reducible refine i_eq_bl ?_)
  | (with_reducible refine i_ne_bl ?_)
  | (with_reducible refine i_in_sg ?_)
  | (with_reducible refine i_notIn_sg ?_)
  | (with_reducible refine i_call ?_)
  | (with_reducible refine i_callS ?_)
  | (with_reducible refine i_sp1 ?_)
  | (with_reducible refine i_sp2 ?_)
  | (with_reducible refine i_sp3 ?_)
  | (with_reducible refine i_sp4 ?_)
  | (with_reducible refine i_sp1' ?_)
  | (with_reducible refine i_sp2' ?_)
  | (with_reducible refine i_sp3' ?_)
  | ((with_reducible refine' i_ix_lst ?h1 ?h2 ?_); (case h1 => walk_at "sq"); (case h2 => first | exact atI_nat rfl | rfl))
  | ((with_reducible refine' i_ix_tup ?h1 ?h2 ?_); (case h1 => walk_at "st"); (case h2 => first | exact atI_nat rfl | rfl))
  | (with_reducible refine i_gsub ?_)
  | (with_reducible refine i_par ?_)
  | (with_reducible refine i_lstRg1 ?_)
  | (with_reducible refine i_app ?_)
  | (with_reducible refine i_par2 ?_)
  | ((with_reducible refine' i_aug ?h1 ?_); (case h1 => rfl))
  | (with_reducible refine i_ipI ?_)
  | ((with_reducible refine' i_gtup2 ?h1 ?_); (case h1 => walk_at "st"))
  | (with_reducible refine i_int_bl ?_)
  | (with_reducible refine i_raise ?_)
  | (with_reducible refine i_mkE ?_)
  | (with_reducible refine i_ex1 ?_)
  | (with_reducible refine i_and ?_)
  | (with_reducible refine i_or ?_)
  | (with_reducible refine i_not ?_)
  | (with_reducible refine i_tt ?_)
  | (with_reducible refine i_ff ?_)
  | (with_reducible refine i_nott ?_)
  | (with_reducible refine i_notf ?_)
  | (with_reducible refine i_andV ?_)
  | (with_reducible refine i_orV ?_)
  | (with_reducible refine i_notV ?_)
  | (with_reducible refine i_ifE ?_)
  | (with_reducible refine i_tup ?_)
  | (with_reducible refine i_lst ?_)
  | (with_reducible refine i_un ?_)
  | (with_reducible refine i_neg ?_)
  | (with_reducible refine i_chain ?_)
  | (with_reducible refine i_next ?_)
  | (with_reducible refine i_retN ?_)
  | (with_reducible refine i_drop ?_)
  | (with_reducible refine i_int_int ?_)
  | (with_reducible refine i_abs ?_)
  | (with_reducible refine i_m1c ?_)
  | (with_reducible refine i_is_non ?_)
  | (with_reducible refine i_is_int ?_)
  | (with_reducible refine i_is_bl ?_)
  | (with_reducible refine i_isn_bl ?_)
  | (with_reducible refine i_is_str ?_)
  | (with_reducible refine i_is_ref ?_)
  | (with_reducible refine i_isn_non ?_)
  | (with_reducible refine i_isn_int ?_)
  | (with_reducible refine i_isn_str ?_)
  | (with_reducible refine i_isn_ref ?_)
  | (with_reducible refine i_len_str ?h1 ?_; (case h1 => walk_at "o"))
  | (with_reducible refine i_callD ?_)
  | (with_reducible refine i_spD2 ?_)
  | (with_reducible refine i_spM1 ?_)
  | (with_reducible refine i_spM2 ?_)
  | (with_reducible refine i_spM3 ?_)
  | (with_reducible refine i_spM4 ?_)
  | (with_reducible refine i_spM3d ?_)
  | (with_reducible refine i_tfld ?_)
  | (with_reducible refine i_sfld ?_)
  | (with_reducible refine i_meth ?_)
  | (with_reducible refine i_make ?_)
  | (with_reducible refine i_spl ?_)
  | (with_reducible refine i_mkE2 ?_)
  | (with_reducible refine i_ex2 ?_)
  | (with_reducible refine i_dget ?_)
  | (with_reducible refine i_tru ?_)
  | (with_reducible refine i_dput ?_)
  | (with_reducible refine i_dnotin ?_)
  | (with_reducible refine i_din ?_)
  | (with_reducible refine i_rev ?_)
  | (with_reducible refine i_isi_int_int ?_) | (with_reducible refine i_isi_int_bool ?_) | (with_reducible refine i_isi_int_str ?_) | (with_reducible refine i_isi_int_tuple ?_) | (with_reducible refine i_isi_int_list ?_)
  | (with_reducible refine i_isi_bl_int ?_) | (with_reducible refine i_isi_bl_bool ?_) | (with_reducible refine i_isi_bl_str ?_) | (with_reducible refine i_isi_bl_tuple ?_) | (with_reducible refine i_isi_bl_list ?_)
  | (with_reducible refine i_isi_str_int ?_) | (with_reducible refine i_isi_str_bool ?_) | (with_reducible refine i_isi_str_str ?_) | (with_reducible refine i_isi_str_tuple ?_) | (with_reducible refine i_isi_str_list ?_)
  | (with_reducible refine i_isi_non_int ?_) | (with_reducible refine i_isi_non_bool ?_) | (with_reducible refine i_isi_non_str ?_) | (with_reducible refine i_isi_non_tuple ?_) | (with_reducible refine i_isi_non_list ?_))
local macro_rules | `(tactic| walk_at "go") => `(tactic| (repeat' (walk_at "s")))
local macro_rules | `(tactic| walk_at "n") => `(tactic| simp only [wipe, List.map_cons, List.map_nil, List.set_cons_zero, List.set_cons_succ])
theorem atAll_set {H : Hp} {zs : List V} {ds : List PyData} {v : V} {d : PyData} (h : AtAll H zs ds) (hv : At H v d) (i : Nat) : AtAll H (zs.set i v) (ds.set i d) := by
  refine atAll_of (by rw [List.length_set, List.length_set]; exact h.len) fun j x e hx he => ?_
  rw [List.getElem?_set] at hx he
  by_cases z : i = j
  · subst z
    rw [if_pos rfl] at hx he
    split at hx
    · cases hx
      split at he
      · cases he; exact hv
      · cases he
    · cases hx
  · rw [if_neg z] at hx he
    obtain ⟨c, hc, ac⟩ := h.get hx
    rw [he] at hc
    cases hc
    exact ac
def joinH (A f : Hp) : Hp := fun b => match A b with
  | some o => some o
  | none => f b
section
variable {K : PySem.W.Frag} {d : Dd} {f A A1 H H1 : Hp} {q : Addr} {o o' : HO}
theorem joinH_some (h : A q = some o) : joinH A f q = some o := by unfold joinH; rw [h]
theorem joinH_none (h : A q = none) : joinH A f q = f q := by unfold joinH; rw [h]
theorem joinH_upd : joinH (upd A q o) f = upd (joinH A f) q o := by
  funext b
  by_cases h : b = q
  · rw [h, upd_same]; exact joinH_some upd_same
  · rw [upd_ne h]
    unfold joinH
    rw [upd_ne h]
def D2 (K : PySem.W.Frag) (d : Dd) (f A H : Hp) : Prop := Same A H ∧ Dr K d (joinH A f) H ∧ ∀ b, f b ≠ none → A b = none
theorem D2.old (h : D2 K d f A H) (e : A q = some o) : H q = some o := h.1 _ _ e
theorem D2.free (h : D2 K d f A H) (n : H q = none) : A q = none := h.1.free n
theorem D2.fr (h : D2 K d f A H) (e : f q = some o) : H q = some o := h.2.1.1 _ _ (by rw [joinH_none (h.2.2 q (by rw [e]; simp))]; exact e)
theorem D2.same (h : D2 K d f A H) (s : Same H H1) : D2 K d f A H1 := ⟨h.1.trans s, h.2.1.same s, h.2.2⟩
theorem D2.new (h : D2 K d f A H) (n : H q = none) : D2 K d f (upd A q o) (upd H q o) := by
  have e := h.2.1.new (o := o) n
  rw [← joinH_upd] at e
  refine ⟨fun b u hb => ?_, e, fun b hb => ?_⟩
  · by_cases hq : b = q
    · rw [hq, upd_same] at hb; rw [hq, upd_same]; exact hb
    · rw [upd_ne hq] at hb; rw [upd_ne hq]; exact h.1 _ _ hb
  · have hq : b ≠ q := fun z => by
      cases ef : f b with
      | none => exact hb ef
      | some u =>
        have := h.fr ef
        rw [z, n] at this
        cases this
    rw [upd_ne hq]
    exact h.2.2 b hb
theorem D2.step (h : D2 K d f A H) (o : HO) (n : H q = none) : ∃ A1, Same A A1 ∧ A1 q = some o ∧ D2 K d f A1 (upd H q o) := ⟨_, same_upd (h.free n), upd_same, h.new n⟩
theorem D2.cells (h : D2 K d f A H) : SqL K (joinH A f) d.c (d.ns.map V.int) := h.2.1.cells
theorem D2.less (h : D2 K d f (upd A q o) H) (hc : SqL K (joinH A f) d.c (d.ns.map V.int)) (n : A q = none) : D2 K d f A H := by
  have e := h.2.1
  rw [joinH_upd] at e
  have nf : f q = none := by
    cases ef : f q with
    | none => rfl
    | some u =>
      have := h.2.2 q (by rw [ef]; simp)
      rw [upd_same] at this
      cases this
  refine ⟨(same_upd n).trans h.1, e.less hc (by rw [joinH_none n]; exact nf), fun b hb => ?_⟩
  have := h.2.2 b hb
  rwa [upd_ne (fun z => by rw [z, nf] at hb; exact hb rfl)] at this
theorem pick2 {many : Int} {Q : VK} {E : XK} (h : D2 K d f A H) (hm : many ≤ 10000000000000000000000000000000000000000) (q : ∀ (n : Int) H', D2 K d f A H' → Btw n many → Q (.int n) H') : p_L_pick K (.ref d.a) (.int many) H Q E :=
  ⟨joinH A f, d, many, rfl, rfl, h.2.1, hm, fun n H' e b => q n H' ⟨fun c u hc => e.1 _ _ (joinH_some hc), e, h.2.2⟩ b⟩
/-- one object -/
def oneH (q : Addr) (o : HO) : Hp := fun b => if b = q then some o else none
theorem joinH_one (n : A q = none) : joinH A (oneH q o) = upd A q o := by
  funext b
  by_cases h : b = q
  · rw [h, upd_same, joinH_none n]; exact if_pos rfl
  · rw [upd_ne h]
    cases e : A b with
    | some u => exact joinH_some e
    | none => rw [joinH_none e]; exact if_neg h
theorem D2.of (h : Dr K d (upd A q o) H) (n : A q = none) : D2 K d (oneH q o) A H :=
  ⟨(same_upd n).trans h.1, by rw [joinH_one n]; exact h, fun b hb => by
    by_cases e : b = q
    · rw [e]; exact n
    · exact absurd (if_neg e) hb⟩
theorem D2.to (h : D2 K d (oneH q o) A H) : A q = none ∧ Dr K d (upd A q o) H := by
  have n : A q = none := h.2.2 q (by rw [show oneH q o q = some o from if_pos rfl]; simp)
  exact ⟨n, by rw [← joinH_one n]; exact h.2.1⟩
end


section
variable {K : PySem.W.Frag} {d : Dd} {f A A1 H H1 H0 : Hp} {q L wl p r : Addr} {o o' x y : HO} {xs zs : List V}
theorem D2.nf (h : D2 K d f (upd A q o) H) : f q = none := by
  cases ef : f q with
  | none => rfl
  | some u =>
    have := h.2.2 q (by rw [ef]; simp)
    rw [upd_same] at this
    cases this
theorem D2.lst (h : D2 K d f (upd A q o) H) : H q = some o := h.old upd_same
theorem D2.skip (h : D2 K d f A H) (n : H q = none) : D2 K d f A (upd H q o) := h.same (same_upd n)
theorem D2.put (h : D2 K d f (upd A q o) H) (hc : SqL K (joinH A f) d.c (d.ns.map V.int)) (n : A q = none) : D2 K d f (upd A q o') (upd H q o') := by
  have nf := h.nf
  have e := h.2.1
  rw [joinH_upd] at e
  have e2 := e.put (o' := o') hc (by rw [joinH_none n]; exact nf)
  rw [← joinH_upd] at e2
  refine ⟨fun b u hb => ?_, e2, fun b hb => ?_⟩
  · by_cases hq : b = q
    · rw [hq, upd_same] at hb; rw [hq, upd_same]; exact hb
    · rw [upd_ne hq] at hb; rw [upd_ne hq]; exact h.1 _ _ ((upd_ne hq).trans hb)
  · have hq : b ≠ q := fun z => by rw [z] at hb; exact hb nf
    have := h.2.2 b hb
    rw [upd_ne hq] at this
    rw [upd_ne hq]; exact this
theorem D2.sq (h0 : D2 K d f H0 H) (s : Same H0 A) (h : D2 K d f (upd A q o) H1) : SqL K (joinH A f) d.c (d.ns.map V.int) := by
  have hc := h0.2.1.cells
  have s2 : Same (joinH H0 f) (joinH A f) := fun b u e => by
    cases e0 : H0 b with
    | some w =>
      rw [joinH_some e0] at e
      rw [joinH_some (s _ _ e0)]; exact e
    | none =>
      rw [joinH_none e0] at e
      have nq : b ≠ q := fun z => by rw [z, h.nf] at e; cases e
      have := h.2.2 b (by rw [e]; simp)
      rw [upd_ne nq] at this
      rw [joinH_none this]; exact e
  exact s2.seq hc
/-- a list goes into the frame -/
theorem D2.hide (h : D2 K d f (upd A L o) H) (n : A L = none) : D2 K d (joinH (oneH L o) f) A H := by
  have ej : joinH A (joinH (oneH L o) f) = joinH (upd A L o) f := by
    funext b
    by_cases h1 : b = L
    · rw [h1, joinH_none n, joinH_some (show oneH L o L = some o from if_pos rfl), joinH_some upd_same]
    · have e1 : joinH (oneH L o) f b = f b := joinH_none (show oneH L o b = none from if_neg h1)
      cases e : A b with
      | some u => rw [joinH_some e, joinH_some ((upd_ne h1).trans e)]
      | none => rw [joinH_none e, joinH_none ((upd_ne h1).trans e)]; exact e1
  refine ⟨(same_upd n).trans h.1, by rw [ej]; exact h.2.1, fun b hb => ?_⟩
  by_cases h1 : b = L
  · rw [h1]; exact n
  · rw [joinH_none (show oneH L o b = none from if_neg h1)] at hb
    have := h.2.2 b hb
    rw [upd_ne h1] at this
    exact this
theorem D2.show (h : D2 K d (joinH (oneH L o) f) A H) (nf : f L = none) : A L = none ∧ D2 K d f (upd A L o) H := by
  have n : A L = none := h.2.2 L (by rw [joinH_some (show oneH L o L = some o from if_pos rfl)]; simp)
  have ej : joinH A (joinH (oneH L o) f) = joinH (upd A L o) f := by
    funext b
    by_cases h1 : b = L
    · rw [h1, joinH_none n, joinH_some (show oneH L o L = some o from if_pos rfl), joinH_some upd_same]
    · have e1 : joinH (oneH L o) f b = f b := joinH_none (show oneH L o b = none from if_neg h1)
      cases e : A b with
      | some u => rw [joinH_some e, joinH_some ((upd_ne h1).trans e)]
      | none => rw [joinH_none e, joinH_none ((upd_ne h1).trans e)]; exact e1
  refine ⟨n, fun b u hb => ?_, by rw [← ej]; exact h.2.1, fun b hb => ?_⟩
  · by_cases h1 : b = L
    · rw [h1, upd_same] at hb
      cases hb
      rw [h1]
      exact h.fr (joinH_some (if_pos rfl))
    · rw [upd_ne h1] at hb; exact h.1 _ _ hb
  · have h1 : b ≠ L := fun z => by rw [z] at hb; exact hb nf
    rw [upd_ne h1]
    exact h.2.2 b (by rw [joinH_none (show oneH L o b = none from if_neg h1)]; exact hb)
end

def noF : Hp := fun _ => none
section
variable {K : PySem.W.Frag} {d : Dd} {f A A0 A1 A2 H H1 H0 G G2 : Hp} {q L : Addr} {o : HO} {xs : List V} {ds : List PyData}
theorem join_noF : joinH A noF = A := by
  funext b
  cases e : A b with
  | some u => exact joinH_some e
  | none => exact joinH_none e
theorem D2.of0 (h : Dr K d A H) : D2 K d noF A H := ⟨h.1, by rw [join_noF]; exact h, fun b hb => absurd rfl hb⟩
theorem D2.to0 (h : D2 K d noF A H) : Dr K d A H := by
  have := h.2.1
  rwa [join_noF] at this
/-- the cells of the draws are known -/
def Cel (K : PySem.W.Frag) (d : Dd) (f A : Hp) : Prop := SqL K (joinH A f) d.c (d.ns.map V.int)
theorem D2.cel (h : D2 K d f A H) : Cel K d f A := h.2.1.cells
theorem cel_up (hc : Cel K d f A0) (s : Same A0 A) (h : D2 K d f (upd A q o) H1) : Cel K d f A := by
  have s2 : Same (joinH A0 f) (joinH A f) := fun b u e => by
    cases e0 : A0 b with
    | some w =>
      rw [joinH_some e0] at e
      rw [joinH_some (s _ _ e0)]; exact e
    | none =>
      rw [joinH_none e0] at e
      have nq : b ≠ q := fun z => by rw [z, h.nf] at e; cases e
      have := h.2.2 b (by rw [e]; simp)
      rw [upd_ne nq] at this
      rw [joinH_none this]; exact e
  exact s2.seq hc
/-- the list at L, with these data, over what is known besides -/
structure LB (K : PySem.W.Frag) (d : Dd) (f A0 : Hp) (L : Addr) (G : Hp) (ds : List PyData) : Prop where
  ex : ∃ A1 xs, Same A0 A1 ∧ A1 L = none ∧ D2 K d f (upd A1 L (.lst xs)) G ∧ AtAll A1 xs ds
  cel : Cel K d f A0
theorem LB.new (h : D2 K d f A0 H) (n : H L = none) : LB K d f A0 L (upd H L (.lst [])) [] := ⟨⟨A0, [], Same.refl _, h.free n, h.new n, .nil⟩, h.cel⟩
theorem LB.start (h : D2 K d f (upd A0 L (.lst xs)) H) (n : A0 L = none) (al : AtAll A0 xs ds) (c : Cel K d f A0) : LB K d f A0 L H ds := ⟨⟨A0, xs, Same.refl _, n, h, al⟩, c⟩
/-- opened: draws go on beside it; then it changes -/
theorem LB.op (h : LB K d f A0 L G ds) : ∃ A1 xs fr, Same A0 A1 ∧ G L = some (.lst xs) ∧ xs.length = ds.length ∧ AtAll A1 xs ds ∧ D2 K d fr A1 G ∧
    (∀ A2 G2, Same A1 A2 → D2 K d fr A2 G2 → G2 L = some (.lst xs) ∧ AtAll A2 xs ds ∧ LB K d f A0 L G2 ds ∧
      (∀ v e, At A2 v e → LB K d f A0 L (upd G2 L (.lst (xs ++ [v]))) (ds ++ [e])) ∧ ∀ v e j, At A2 v e → LB K d f A0 L (upd G2 L (.lst (xs.set j v))) (ds.set j e)) := by
  obtain ⟨⟨A1, xs, s, n, dr, al⟩, c⟩ := h
  refine ⟨A1, xs, _, s, dr.lst, al.len, al, dr.hide n, fun A2 G2 s2 d2 => ?_⟩
  obtain ⟨n2, d3⟩ := d2.show dr.nf
  have c2 := cel_up c (s.trans s2) d3
  have al2 := al.same s2
  exact ⟨d3.lst, al2, ⟨⟨A2, xs, s.trans s2, n2, d3, al2⟩, c⟩, fun v e hv => ⟨⟨A2, _, s.trans s2, n2, d3.put c2 n2, al2.app (.one hv)⟩, c⟩, fun v e j hv => ⟨⟨A2, _, s.trans s2, n2, d3.put c2 n2, atAll_set al2 hv j⟩, c⟩⟩
/-- closed: it is known -/
theorem LB.cl (h : LB K d f A0 L G ds) (hl : ds.length ≤ 10000) : ∃ A1 xs, Same A0 A1 ∧ D2 K d f A1 G ∧ A1 L = some (.lst xs) ∧ AtAll A1 xs ds ∧ At A1 (.ref L) (.list ds) ∧ xs.length = ds.length := by
  obtain ⟨⟨A1, xs, s, n, dr, al⟩, c⟩ := h
  have al2 := al.same (same_upd (o := .lst xs) n)
  exact ⟨_, xs, s.trans (same_upd n), dr, upd_same, al2, At.mkLst upd_same al2 hl, al.len⟩
variable {σ : L2.St} {Q : VK} {te tl : TE} {ta : TA} {j : Nat} {vs : List Nat} {a : Addr}
/-- [te for j in range(n)], te drawing data -/
theorem c_rngB {many : Nat} (dr : D2 K d f A H) (ha : ∀ R : List V → Hp → Prop, R [.int (many : Int)] H → ta σ H R) (hm : many ≤ 10000) (P : Nat → PyData → Prop) (hw : ∀ x, wipe ((wipe σ vs).set j (some x)) vs = wipe σ vs)
    (he : ∀ (i : Nat) A1 G1 fr, i < many → Same A A1 → D2 K d fr A1 G1 → ∀ QV : VK, (∀ A2 G2 y e, Same A1 A2 → D2 K d fr A2 G2 → At A2 y e → P i e → QV y G2) → te ((wipe σ vs).set j (some (.int (i : Int)))) G1 QV)
    (q : ∀ A1 G1 Dl xs ds, Same A A1 → D2 K d f A1 G1 → A1 Dl = some (.lst xs) → AtAll A1 xs ds → ds.length = many → (∀ i e, ds[i]? = some e → P i e) → Q (.ref Dl) G1) : tLc (iRng1 ta) (gName j) tYes te vs σ H Q := by
  refine ha _ ⟨(many : Int), rfl, by omega, by omega, fun Dl nD => ?_⟩
  rw [Int.toNat_natCast]
  refine lc_range (fun i H' => ∃ ds, LB K d f A Dl H' ds ∧ ds.length = i ∧ ∀ m e, ds[m]? = some e → P m e) ⟨[], LB.new dr nD, rfl, fun m e z => by simp at z⟩ (fun i H' hi p => ?_) (fun H' p => ?_)
  · obtain ⟨ds, lb, dl, hp⟩ := p
    rw [Int.zero_add]
    refine ⟨hw _, i_yes (i_tt ?_)⟩
    obtain ⟨A1, xs, fr, s1, _, xl, _, d1, k⟩ := lb.op
    refine he i A1 H' fr hi s1 d1 _ fun A2 G2 y e s2 d2 hy hp' => ?_
    obtain ⟨hL, _, _, app, _⟩ := k A2 G2 s2 d2
    refine ⟨xs, hL, by rw [xl, dl]; exact Nat.lt_of_lt_of_le hi (Nat.le_trans hm (by decide)), _, app y e hy, by rw [List.length_append, dl]; rfl, fun m e' z => ?_⟩
    rcases Nat.lt_or_ge m ds.length with h | h
    · rw [List.getElem?_append_left h] at z; exact hp m e' z
    · have hlt := (List.getElem?_eq_some_iff.mp z).1
      rw [List.length_append, List.length_singleton] at hlt
      obtain rfl : m = ds.length := by omega
      rw [List.getElem?_append_right (Nat.le_refl _), Nat.sub_self] at z
      cases z
      rw [dl]; exact hp'
  · obtain ⟨ds, lb, dl, hp⟩ := p
    obtain ⟨A1, xs, s1, d1, e1, al, _, _⟩ := lb.cl (by omega)
    exact q A1 H' Dl xs ds s1 d1 e1 al dl hp
/-- .. over data that are known -/
theorem c_seqL {xs : List V} {es : List PyData} (dr : D2 K d f A H) (hx : A a = some (.lst xs) ∨ A a = some (.tup xs)) (al : AtAll A xs es) (ha : ∀ R : VK, R (.ref a) H → tl σ H R) (hm : es.length ≤ 10000) (P : Nat → PyData → Prop) (hw : ∀ x, wipe ((wipe σ vs).set j (some x)) vs = wipe σ vs)
    (he : ∀ (i : Nat) x e A1 G1 fr, es[i]? = some e → At A1 x e → Same A A1 → D2 K d fr A1 G1 → ∀ QV : VK, (∀ A2 G2 y e', Same A1 A2 → D2 K d fr A2 G2 → At A2 y e' → P i e' → QV y G2) → te ((wipe σ vs).set j (some x)) G1 QV)
    (q : ∀ G1 Dl ds, LB K d f A Dl G1 ds → ds.length = es.length → (∀ i e, ds[i]? = some e → P i e) → Q (.ref Dl) G1) : tLc (iAny K tl) (gName j) tYes te vs σ H Q := by
  have ll := al.len
  have turn : ∀ Dl i x H', H Dl = none → xs[i]? = some x → (∃ ds, LB K d f A Dl H' ds ∧ ds.length = i ∧ ∀ m e, ds[m]? = some e → P m e) → wipe ((wipe σ vs).set j (some x)) vs = wipe σ vs ∧ tYes ((wipe σ vs).set j (some x)) H' fun b H3 =>
      if b = true then te ((wipe σ vs).set j (some x)) H3 fun y H4 => ∃ acc, H4 Dl = some (.lst acc) ∧ acc.length < sizeLine ∧ ∃ ds, LB K d f A Dl (upd H4 Dl (.lst (acc ++ [y]))) ds ∧ ds.length = i + 1 ∧ ∀ m e, ds[m]? = some e → P m e
      else ∃ ds, LB K d f A Dl H3 ds ∧ ds.length = i + 1 ∧ ∀ m e, ds[m]? = some e → P m e := fun Dl i x H' nD hi p => by
    obtain ⟨ds, lb, dl, hp⟩ := p
    obtain ⟨e, he1, ax⟩ := al.get hi
    have hlt := (List.getElem?_eq_some_iff.mp hi).1
    refine ⟨hw _, i_yes (i_tt ?_)⟩
    obtain ⟨A1, ys, fr, s1, _, xl, _, d1, k⟩ := lb.op
    refine he i x e A1 H' fr he1 (ax.same s1) s1 d1 _ fun A2 G2 y e' s2 d2 hy hp' => ?_
    obtain ⟨hL, _, _, app, _⟩ := k A2 G2 s2 d2
    refine ⟨ys, hL, by rw [xl, dl]; exact Nat.lt_of_lt_of_le (show i < 100000 by omega) (by decide), _, app y e' hy, by rw [List.length_append, dl]; rfl, fun m e'' z => ?_⟩
    rcases Nat.lt_or_ge m ds.length with h | h
    · rw [List.getElem?_append_left h] at z; exact hp m e'' z
    · have hlt := (List.getElem?_eq_some_iff.mp z).1
      rw [List.length_append, List.length_singleton] at hlt
      obtain rfl : m = ds.length := by omega
      rw [List.getElem?_append_right (Nat.le_refl _), Nat.sub_self] at z
      cases z
      rw [dl]; exact hp'
  have fin : ∀ Dl H', (∃ ds, LB K d f A Dl H' ds ∧ ds.length = xs.length ∧ ∀ m e, ds[m]? = some e → P m e) → Q (.ref Dl) H' := fun Dl H' p => by
    obtain ⟨ds, lb, dl, hp⟩ := p
    exact q H' Dl ds lb (by omega) hp
  have stay : ∀ {Dl i H'}, (∃ ds, LB K d f A Dl H' ds ∧ ds.length = i ∧ ∀ m e, ds[m]? = some e → P m e) → Same A H' := fun p => by
    obtain ⟨ds, lb, _⟩ := p
    obtain ⟨A1, ys, fr, s1, _, _, _, d1, _⟩ := lb.op
    exact s1.trans d1.1
  rcases hx with hx | hx
  · refine ha _ (.inl ⟨a, xs, rfl, .inl (.inl (dr.old hx)), fun Dl nD => ?_⟩)
    exact lc_list (xs := xs) (fun i H' => ∃ ds, LB K d f A Dl H' ds ∧ ds.length = i ∧ ∀ m e, ds[m]? = some e → P m e) ⟨[], LB.new dr nD, rfl, fun m e z => by simp at z⟩ (fun i H' _ p => .inl (.inl (stay p _ _ hx))) (fun i x H' hi p => turn Dl i x H' nD hi p) (fun H' p => fin Dl H' p)
  · refine ha _ (.inr (.inl ⟨a, xs, rfl, .inl (.inl (dr.old hx)), fun Dl nD => ?_⟩))
    exact lc_tup (xs := xs) (fun i H' => ∃ ds, LB K d f A Dl H' ds ∧ ds.length = i ∧ ∀ m e, ds[m]? = some e → P m e) ⟨[], LB.new dr nD, rfl, fun m e z => by simp at z⟩ (fun i H' _ p => .inl (.inl (stay p _ _ hx))) (fun i x H' hi p => turn Dl i x H' nD hi p) (fun H' p => fin Dl H' p)
theorem c_seqB {xs : List V} {es : List PyData} (dr : D2 K d f A H) (hx : A a = some (.lst xs) ∨ A a = some (.tup xs)) (al : AtAll A xs es) (ha : ∀ R : VK, R (.ref a) H → tl σ H R) (hm : es.length ≤ 10000) (P : Nat → PyData → Prop) (hw : ∀ x, wipe ((wipe σ vs).set j (some x)) vs = wipe σ vs)
    (he : ∀ (i : Nat) x e A1 G1 fr, es[i]? = some e → At A1 x e → Same A A1 → D2 K d fr A1 G1 → ∀ QV : VK, (∀ A2 G2 y e', Same A1 A2 → D2 K d fr A2 G2 → At A2 y e' → P i e' → QV y G2) → te ((wipe σ vs).set j (some x)) G1 QV)
    (q : ∀ A1 G1 Dl xs ds, Same A A1 → D2 K d f A1 G1 → A1 Dl = some (.lst xs) → AtAll A1 xs ds → ds.length = es.length → (∀ i e, ds[i]? = some e → P i e) → Q (.ref Dl) G1) : tLc (iAny K tl) (gName j) tYes te vs σ H Q :=
  c_seqL dr hx al ha hm P hw he fun G1 Dl ds lb dl hp => by
    obtain ⟨A1, ys, s1, d1, e1, al', _, _⟩ := lb.cl (by omega)
    exact q A1 G1 Dl ys ds s1 d1 e1 al' dl hp
end
end K47
namespace K47
open PySem PySem.Spec PyProof.Rows L2 Fg
local macro_rules | `(tactic| walk_at "sq") => `(tactic| first
  | assumption
  | exact .inl (.inl (by assumption))
  | exact .inl (.inl upd_same))
local macro_rules | `(tactic| walk_at "st") => `(tactic| first
  | assumption
  | exact .inl (.inl (by assumption))
  | exact .inl (.inl upd_same))
local macro_rules | `(tactic| walk_at "o") => `(tactic| first
  | omega
  | assumption
  | (simp only [List.length_append, List.length_take, List.length_drop, List.length_cons, List.length_nil, List.length_singleton, List.length_map, List.length_range, Int.toNat_natCast] ; omega))
local macro_rules | `(tactic| walk_at "s") => `(tactic| first
  | (with_reducible refine i_seq ?_)
  | (with_reducible refine i_asg ?_)
  | ((with_reducible refine' i_var ?h1 ?_); (case h1 => rfl))
  | (with_reducible refine i_c ?_)
  | ((with_reducible refine' i_gname' ?h1 ?_); (case h1 => (simp only [List.set_cons_zero, List.set_cons_succ]; rfl)))
  | (with_reducible refine i_op ?_)
  | (with_reducible refine i_ifS ?_)
  | (with_reducible refine i_for ?_)
  | (with_reducible refine i_test ?_)
  | (with_reducible refine i_B ?_)
  | (with_reducible refine i_exbl ?_)
  | (with_reducible refine i_exint ?_)
  | (with_reducible refine i_cb ?_)
  | (with_reducible refine i_nil ?_)
  | (with_reducible refine i_cons ?_)
  | (with_reducible refine i_ret ?_)
  | (with_reducible refine i_sl ?_)
  | (with_reducible refine i_nopart ?_)
  | (with_reducible refine i_part ?_)
  | (with_reducible refine i_add_int ?_)
  | (with_reducible refine i_sub ?_)
  | (with_reducible refine i_lt ?_)
  | ((with_reducible refine' i_mod ?h1 ?_); (case h1 => walk_at "o"))
  | ((with_reducible refine' i_fdiv ?h1 ?_); (case h1 => (refine cdiv_small ?_ ?_ <;> walk_at "o")))
  | ((with_reducible refine' i_sl_to ?h1 ?h2 ?_); (case h1 => walk_at "o"); (case h2 => walk_at "o"))
  | ((with_reducible refine' i_sl_from ?h1 ?h2 ?_); (case h1 => walk_at "o"); (case h2 => walk_at "o"))
  | ((with_reducible refine' i_add_str ?h1 ?_); (case h1 => walk_at "o"))
  | ((with_reducible refine' i_mul_int ?h1 ?_); (case h1 => first | (refine mul_small ?_ ?_ <;> walk_at "o") | (refine mul_smallR ?_ ?_ <;> walk_at "o")))
  | (with_reducible refine i_le ?_)
  | (with_reducible refine i_gt ?_)
  | (with_reducible refine i_ge ?_)
  | (with_reducible refine i_eq_int ?_)
  | (with_reducible refine i_eq_str ?_)
  | (with_reducible refine i_ne_int ?_)
  | (with_reducible refine i_ne_str ?_)
  | (with_reducible refine i_eq_bl ?_)
  | (with_reducible refine i_ne_bl ?_)
  | (with_reducible refine i_in_sg ?_)
  | (with_reducible refine i_notIn_sg ?_)
  | (with_reducible refine i_call ?_)
  | (with_reducible refine i_callS ?_)
  | (with_reducible refine i_sp1 ?_)
  | (with_reducible refine i_sp2 ?_)
  | (with_reducible refine i_sp3 ?_)
  | (with_reducible refine i_sp4 ?_)
  | (with_reducible refine i_sp1' ?_)
  | (with_reducible refine i_sp2' ?_)
  | (with_reducible refine i_sp3' ?_)
  | ((with_reducible refine' i_ix_lst ?h1 ?h2 ?_); (case h1 => walk_at "sq"); (case h2 => first | exact atI_nat rfl | rfl))
  | ((with_reducible refine' i_ix_tup ?h1 ?h2 ?_); (case h1 => walk_at "st"); (case h2 => first | exact atI_nat rfl | rfl))
  | (with_reducible refine i_gsub ?_)
  | (with_reducible refine i_par ?_)
  | (with_reducible refine i_lstRg1 ?_)
  | (with_reducible refine i_app ?_)
  | (with_reducible refine i_par2 ?_)
  | ((with_reducible refine' i_aug ?h1 ?_); (case h1 => rfl))
  | (with_reducible refine i_ipI ?_)
  | ((with_reducible refine' i_gtup2 ?h1 ?_); (case h1 => walk_at "st"))
  | (with_reducible refine i_int_bl ?_)
  | (with_reducible refine i_raise ?_)
  | (with_reducible refine i_mkE ?_)
  | (with_reducible refine i_ex1 ?_)
  | (with_reducible refine i_and ?_)
  | (with_reducible refine i_or ?_)
  | (with_reducible refine i_not ?_)
  | (with_reducible refine i_tt ?_)
  | (with_reducible refine i_ff ?_)
  | (with_reducible refine i_nott ?_)
  | (with_reducible refine i_notf ?_)
  | (with_reducible refine i_andV ?_)
  | (with_reducible refine i_orV ?_)
  | (with_reducible refine i_notV ?_)
  | (with_reducible refine i_ifE ?_)
  | (with_reducible refine i_tup ?_)
  | (with_reducible refine i_lst ?_)
  | (with_reducible refine i_un ?_)
  | (with_reducible refine i_neg ?_)
  | (with_reducible refine i_chain ?_)
  | (with_reducible refine i_next ?_)
  | (with_reducible refine i_retN ?_)
  | (with_reducible refine i_drop ?_)
  | (with_reducible refine i_int_int ?_)
  | (with_reducible refine i_abs ?_)
  | (with_reducible refine i_m1c ?_)
  | (with_reducible refine i_is_non ?_)
  | (with_reducible refine i_is_int ?_)
  | (with_reducible refine i_is_bl ?_)
  | (with_reducible refine i_isn_bl ?_)
  | (with_reducible refine i_is_str ?_)
  | (with_reducible refine i_is_ref ?_)
  | (with_reducible refine i_isn_non ?_)
  | (with_reducible refine i_isn_int ?_)
  | (with_reducible refine i_isn_str ?_)
  | (with_reducible refine i_isn_ref ?_)
  | (with_reducible refine i_len_str ?h1 ?_; (case h1 => walk_at "o"))
  | (with_reducible refine i_callD ?_)
  | (with_reducible refine i_spD2 ?_)
  | (with_reducible refine i_spM1 ?_)
  | (with_reducible refine i_spM2 ?_)
  | (with_reducible refine i_spM3 ?_)
  | (with_reducible refine i_spM4 ?_)
  | (with_reducible refine i_spM3d ?_)
  | (with_reducible refine i_tfld ?_)
  | (with_reducible refine i_sfld ?_)
  | (with_reducible refine i_meth ?_)
  | (with_reducible refine i_make ?_)
  | (with_reducible refine i_spl ?_)
  | (with_reducible refine i_mkE2 ?_)
  | (with_reducible refine i_ex2 ?_)
  | (with_reducible refine i_dget ?_)
  | (with_reducible refine i_tru ?_)
  | (with_reducible refine i_dput ?_)
  | (with_reducible refine i_dnotin ?_)
  | (with_reducible refine i_din ?_)
  | (with_reducible refine i_rev ?_)
  | (with_reducible refine i_isi_int_int ?_) | (with_reducible refine i_isi_int_bool ?_) | (with_reducible refine i_isi_int_str ?_) | (with_reducible refine i_isi_int_tuple ?_) | (with_reducible refine i_isi_int_list ?_)
  | (with_reducible refine i_isi_bl_int ?_) | (with_reducible refine i_isi_bl_bool ?_) | (with_reducible refine i_isi_bl_str ?_) | (with_reducible refine i_isi_bl_tuple ?_) | (with_reducible refine i_isi_bl_list ?_)
  | (with_reducible refine i_isi_str_int ?_) | (with_reducible refine i_isi_str_bool ?_) | (with_reducible refine i_isi_str_str ?_) | (with_reducible refine i_isi_str_tuple ?_) | (with_reducible refine i_isi_str_list ?_)
  | (with_reducible refine i_isi_non_int ?_) | (with_reducible refine i_isi_non_bool ?_) | (with_reducible refine i_isi_non_str ?_) | (with_reducible refine i_isi_non_tuple ?_) | (with_reducible refine i_isi_non_list ?_))
local macro_rules | `(tactic| walk_at "go") => `(tactic| (repeat' (walk_at "s")))
local macro_rules | `(tactic| walk_at "n") => `(tactic| simp only [wipe, List.map_cons, List.map_nil, List.set_cons_zero, List.set_cons_succ])
theorem wordsN_mk : ∀ w ∈ wordsN, isMkL w = true := by decide +kernel
theorem ints_ex {m : Nat} : ∀ {ds : List PyData}, (∀ (i : Nat) e, ds[i]? = some e → ∃ n : Nat, n < m ∧ e = .int (n : Int)) → ∃ ns : List Nat, ds = ns.map (fun n : Nat => PyData.int (n : Int)) ∧ ∀ n ∈ ns, n < m
  | [], _ => ⟨[], rfl, fun n h => absurd h (by simp)⟩
  | e :: r, h => by
    obtain ⟨n, hn, rfl⟩ := h 0 e rfl
    obtain ⟨ns, rfl, hns⟩ := ints_ex (ds := r) fun i e' z => h (i + 1) e' z
    exact ⟨n :: ns, rfl, fun k hk => by
      rcases List.mem_cons.mp hk with rfl | hk
      · exact hn
      · exact hns k hk⟩
/-- a row that may stand among m rows -/
def RowOK (m : Nat) (r : List Nat × List Nat) : Prop := isMkL r.1 = true ∧ r.2.length = 4 ∧ ∀ n ∈ r.2, n < m
theorem good_of {R : Rws} {m : Nat} (h : ∀ r ∈ R, RowOK m r) (e : R.length = m) (h1 : 1 ≤ m) (h4 : m ≤ 400) : Good R :=
  ⟨by omega, by omega, fun r hr => (h r hr).1, fun r hr => (h r hr).2.1, fun r hr n hn => by rw [e]; exact (h r hr).2.2 n hn⟩
theorem Good.row {R : Rws} (g : Good R) : ∀ r ∈ R, RowOK R.length r := fun r hr => ⟨g.word r hr, g.four r hr, g.lt r hr⟩
theorem mk_len {l : List Nat} (h : isMkL l = true) : l.length ≤ 8 := by
  unfold isMkL at h
  rw [Bool.and_eq_true] at h
  exact of_decide_eq_true h.1
/-- a row that has been made -/
theorem row_at {A : Hp} {l1 l2 : Addr} {xs : List V} {w : List Nat} {ns : List Nat} (hw : isMkL w = true) (h4 : ns.length ≤ 100) (d : l1 ≠ l2) (al : AtAll A xs (ns.map fun n : Nat => PyData.int (n : Int))) (n1 : A l1 = none) (n2 : (upd A l1 (.tup xs)) l2 = none) :
    At (upd (upd A l1 (.tup xs)) l2 (.tup [S w, .ref l1])) (.ref l2) (rowD (w, ns)) := by
  have s : Same A (upd (upd A l1 (.tup xs)) l2 (.tup [S w, .ref l1])) := (same_upd n1).trans (same_upd n2)
  refine At.mkTup upd_same (.cons (.str _ ?_) (.one (At.mkTup ((upd_ne d).trans upd_same) (al.same s) (by rw [List.length_map]; exact Nat.le_trans h4 (by decide))))) (by show 2 ≤ 10000; decide)
  have := mk_len hw
  omega
section
variable {P : Program} {w : World} {K : PySem.W.Frag} {mg : Str → Option Value} {base : Heap} {C_GlimError C_BadRow C_BadReader C_Reader : Addr}
def p_L_reader (K : PySem.W.Frag) : P3 := fun x y z H Q _ => ∃ H0 d f nl n1 n2, ∃ most : Nat, x = .ref d.a ∧ y = .int (most : Int) ∧ z = .ref nl ∧ D2 K d f H0 H ∧ H0 nl = some (.lst ([n1, n2].map S)) ∧ n1 ∈ wordsN ∧ n2 ∈ wordsN ∧ 1 ≤ most ∧ most ≤ 100 ∧
  ∀ A H' r R, Same H0 A → D2 K d f A H' → H0 r = none → At A (.ref r) (.list (rowsD R)) → Good R → R.length ≤ most → Q (.ref r) H'
theorem ok_L_reader (T : Txt K mg C_GlimError C_BadRow C_BadReader C_Reader) : OK P w K mg base CX0 3 "_law_reader" ["_law_draw_here", "_law_most", "_law_names_here"] (sp3  (p_L_reader K)) := by
  refine OK.mk (k := 2) T.d_L_reader sc_L_reader len3 fun f cdv A outer s H vs Q E hr h => ?_
  obtain ⟨x, y, z, rfl, h⟩ := h
  refine ⟨_, (pss_cons (ps_set (i := 3) sc_L_reader.nd rfl (Or.inr rfl) (pe_op (opAdd K) pe_int (pe_f (ok_L_pick (K := K) T) (hr.mono (by decide)) pass0 (pa_cons (pv 0) (pa_cons (pv 1) pa_nil))))) (pss_cons (ps_set (i := 4) sc_L_reader.nd rfl (Or.inl rfl) (pe_lst pa_nil)) (pss_cons (ps_for PassesOwn.never rfl (pi_range1 rfl T.b_range (pa_cons (pv 3) pa_nil)) (pg_name (i := 5) sc_L_reader.nd rfl (Or.inl rfl)) (pss_cons (ps_set (i := 6) sc_L_reader.nd rfl (Or.inl rfl) (pe_S [])) (Evl.pss_cut (ps_if (pw_and (pt_cmpR (opEq K hr.units) (pe_f (ok_L_pick (K := K) T) (hr.mono (by decide)) pass0 (pa_cons (pv 0) (pa_cons pe_int pa_nil))) pe_int (nomark _)) (pw_and1 (pw_or (pt_cmpR op_gtP (pv 5) pe_int (nomark _)) (pw_or1 (pt_cmpR (opEq K hr.units) (pe_f (ok_L_pick (K := K) T) (hr.mono (by decide)) pass0 (pa_cons (pv 0) (pa_cons pe_int pa_nil))) pe_int (nomark _)))).pt)).pt (pss_one (ps_set (i := 6) sc_L_reader.nd rfl (Or.inl rfl) (pe_ix (ixK K) (pv 2) (pe_f (ok_L_pick (K := K) T) (hr.mono (by decide)) pass0 (pa_cons (pv 0) (pa_cons (pe_callB (cLen K) (by rfl) T.b_len (by decide +kernel) (pa_cons (pv 2) pa_nil)) pa_nil))) (fun _ _ => rfl)))) pss_nil) (pss_one (ps_expr (peApp K (pv 4) (pa_cons (pe_tup (pa_cons (pv 6) (pa_cons (pe_callTy (cTup K) (by rfl) T.b_tuple (by decide +kernel) (pa_cons (pe_lc (own := [("_law_turn", 7)]) (g := gName 7) (tt := tYes) (by rfl) sc_L_reader.nd (pi_range1 rfl T.b_range (pa_cons pe_int pa_nil)) (blkOk_by (own := [("_law_turn", 7)]) (N := ["_law_draw_here", "_law_most", "_law_names_here", "_law_many", "_law_rows", "_law_state", "_law_word", "_law_turn"]) (sc := (defScope s_L_reader)) (by decide +kernel)) (fun _ _ _ _ _ => (pg_name (i := 7) sc_L_reader.nd rfl (Or.inl rfl))) (fun _ _ _ _ _ => pts_nil) (fun _ _ _ _ _ => (pe_f (ok_L_pick (K := K) T) (hr.mono (by decide)) pass0 (pa_cons (pv 0) (pa_cons (pv 3) pa_nil))))) pa_nil)) pa_nil))) pa_nil))))))) (pss_one (ps_ret (pv 4)))))), ?_⟩
  show (_ : TS) { nx := fun _ H' => Q .non H', rt := Q } [some x, some y, some z, none, none, none, none, none] H
  obtain ⟨H0, d, f, nl, n1, n2, most, rfl, rfl, rfl, dr, hn, w1, w2, m1, m2, q⟩ := h
  walk_at "go"
  refine pick2 dr (by omega) fun n H1 d1 bn => ?_
  obtain ⟨n, rfl, hn9⟩ := to_nat bn m1
  walk_at "go"
  rw [one_add]
  generalize hm : 1 + n = m at *
  have hm1 : 1 ≤ m := by omega
  have hm2 : m ≤ most := by omega
  refine i_new (by show 0 ≤ 100000; omega) fun L nL => ?_
  walk_at "go"
  refine f_rng1 m (fun R k => by walk_at "go"; exact k) (by omega) (fun i σ G => ∃ v5 v6 v7 R, σ = [some (.ref d.a), some (.int (most : Int)), some (.ref nl), some (.int (m : Int)), some (.ref L), v5, v6, v7] ∧ LB K d f H0 L G (rowsD R) ∧ R.length = i ∧ ∀ r ∈ R, RowOK m r)
    ⟨none, none, none, [], rfl, LB.new d1 nL, rfl, fun r hr => absurd hr (by simp)⟩ ?_ ?_
  · rintro i σ G hi ⟨v5, v6, v7, R, rfl, lb, rl, hR⟩
    show (_ : TS) _ [some (.ref d.a), some (.int (most : Int)), some (.ref nl), some (.int (m : Int)), some (.ref L), some (.int (i : Int)), v6, v7] G
    obtain ⟨A1, xs, fr, s1, _, xl, _, d2, k⟩ := lb.op
    have hnA := s1 _ _ hn
    walk_at "go"
    refine i_cut (fun σ G' => ∃ w, σ = [some (.ref d.a), some (.int (most : Int)), some (.ref nl), some (.int (m : Int)), some (.ref L), some (.int (i : Int)), some (S w), v7] ∧ isMkL w = true ∧ D2 K d fr A1 G') ?_ ?_
    · walk_at "go"
      refine pick2 d2 (by omega) fun n G1 d3 b3 => ?_
      walk_at "go"
      refine i_dec (fun e => ?_) (fun e => ⟨[], rfl, rfl, d3⟩)
      walk_at "go"
      refine i_dec (fun e2 => ?_) (fun e2 => ?_)
      · walk_at "go"
        refine i_len_lst (.inl (.inl (d3.old hnA))) ?_
        walk_at "go"
        refine pick2 (many := 2) d3 (by decide) fun k2 G2 d4 b4 => ?_
        obtain ⟨w', hw, gw⟩ := two_names w1 w2 b4
        refine i_ix_lst (.inl (.inl (d4.old hnA))) hw ?_
        walk_at "go"
        exact ⟨w', rfl, wordsN_mk w' gw, d4⟩
      · walk_at "go"
        refine pick2 d3 (by decide) fun n G1 d3 b3 => ?_
        walk_at "go"
        refine i_dec (fun e => ?_) (fun e => ⟨[], rfl, rfl, d3⟩)
        walk_at "go"
        refine i_len_lst (.inl (.inl (d3.old hnA))) ?_
        walk_at "go"
        refine pick2 (many := 2) d3 (by decide) fun k2 G2 d4 b4 => ?_
        obtain ⟨w', hw, gw⟩ := two_names w1 w2 b4
        refine i_ix_lst (.inl (.inl (d4.old hnA))) hw ?_
        walk_at "go"
        exact ⟨w', rfl, wordsN_mk w' gw, d4⟩
    rintro σ G1 ⟨w, rfl, hw, d3⟩
    walk_at "go"
    obtain ⟨hL, _, _, _, _⟩ := k A1 G1 (Same.refl _) d3
    refine i_appAt hL ?_
    walk_at "go"
    refine c_rngB (many := 4) d3 (fun R k => by walk_at "go"; exact k) (by decide) (fun _ e => ∃ n : Nat, n < m ∧ e = .int (n : Int)) (fun _ => rfl) (fun j A2 G2 fr2 hj s2 d4 QV k2 => ?_) (fun A2 G2 Dl ys ds s2 d4 hDl al dl hP => ?_)
    · walk_at "n"
      walk_at "go"
      refine pick2 d4 (by omega) fun n G3 d5 b5 => ?_
      obtain ⟨n, rfl, hn9⟩ := to_nat b5 hm1
      exact k2 A2 G3 _ _ (Same.refl _) d5 (.int _) ⟨n, hn9, rfl⟩
    · obtain ⟨ns, rfl, hns⟩ := ints_ex hP
      rw [List.length_map] at dl
      walk_at "go"
      refine i_tuple_lst (.inl (.inl (d4.old hDl))) fun l1 nl1 => ?_
      walk_at "go"
      refine i_new (by show 2 ≤ 100000; omega) fun l2 nl2 => ?_
      walk_at "go"
      have d12 : l1 ≠ l2 := ne_of_none upd_same nl2
      have d5 := d4.new (o := .tup ys) nl1
      have d6 := d5.new (o := .tup [S w, .ref l1]) nl2
      have row := row_at hw (by omega) d12 al (d4.free nl1) (d5.free nl2)
      obtain ⟨hL, _, _, app, _⟩ := k _ _ (s2.trans ((same_upd (d4.free nl1)).trans (same_upd (d5.free nl2)))) d6
      refine i_appEnd hL (by rw [xl]; unfold rowsD; rw [List.length_map]; omega) ?_
      refine ⟨_, _, _, R ++ [(w, ns)], rfl, ?_, by rw [List.length_append, rl]; rfl, fun r hr => ?_⟩
      · have := app _ _ row
        unfold rowsD at *
        rw [List.map_append]
        exact this
      · rcases List.mem_append.mp hr with hr | hr
        · exact hR r hr
        · rw [List.mem_singleton.mp hr]; exact ⟨hw, dl, hns⟩
  · rintro σ G ⟨v5, v6, v7, R, rfl, lb, rl, hR⟩
    walk_at "go"
    obtain ⟨A1, xs, s1, d2, _, _, aL, _⟩ := lb.cl (by unfold rowsD; rw [List.length_map]; omega)
    exact q A1 G L R s1 d2 (d1.free nL) aL (good_of hR rl hm1 (by omega)) (by omega)
end
end K47
namespace K47
open PySem PySem.Spec PyProof.Rows L2 Fg
local macro_rules | `(tactic| walk_at "sq") => `(tactic| first
  | assumption
  | exact .inl (.inl (by assumption))
  | exact .inl (.inl upd_same))
local macro_rules | `(tactic| walk_at "st") => `(tactic| first
  | assumption
  | exact .inl (.inl (by assumption))
  | exact .inl (.inl upd_same))
local macro_rules | `(tactic| walk_at "o") => `(tactic| first
  | omega
  | assumption
  | (simp only [List.length_append, List.length_take, List.length_drop, List.length_cons, List.length_nil, List.length_singleton, List.length_map, List.length_range, Int.toNat_natCast] ; omega))
local macro_rules | `(tactic| walk_at "s") => `(tactic| first
  | (with_reducible refine i_seq ?_)
  | (with_reducible refine i_asg ?_)
  | ((with_reducible refine' i_var ?h1 ?_); (case h1 => rfl))
  | (with_reducible refine i_c ?_)
  | ((with_reducible refine' i_gname' ?h1 ?_); (case h1 => (simp only [List.set_cons_zero, List.set_cons_succ]; rfl)))
  | (with_reducible refine i_op ?_)
  | (with_reducible refine i_ifS ?_)
  | (with_reducible refine i_for ?_)
  | (with_reducible refine i_test ?_)
  | (with_reducible refine i_B ?_)
  | (with_reducible refine i_exbl ?_)
  | (with_reducible refine i_exint ?_)
  | (with_reducible refine i_cb ?_)
  | (with_reducible refine i_nil ?_)
  | (with_reducible refine i_cons ?_)
  | (with_reducible refine i_ret ?_)
  | (with_reducible refine i_sl ?_)
  | (with_reducible refine i_nopart ?_)
  | (with_reducible refine i_part ?_)
  | (with_reducible refine i_add_int ?_)
  | (with_reducible refine i_sub ?_)
  | (with_reducible refine i_lt ?_)
  | ((with_reducible refine' i_mod ?h1 ?_); (case h1 => walk_at "o"))
  | ((with_reducible refine' i_fdiv ?h1 ?_); (case h1 => (refine cdiv_small ?_ ?_ <;> walk_at "o")))
  | ((with_reducible refine' i_sl_to ?h1 ?h2 ?_); (case h1 => walk_at "o"); (case h2 => walk_at "o"))
  | ((with_reducible refine' i_sl_from ?h1 ?h2 ?_); (case h1 => walk_at "o"); (case h2 => walk_at "o"))
  | ((with_reducible refine' i_add_str ?h1 ?_); (case h1 => walk_at "o"))
  | ((with_reducible refine' i_mul_int ?h1 ?_); (case h1 => first | (refine mul_small ?_ ?_ <;> walk_at "o") | (refine mul_smallR ?_ ?_ <;> walk_at "o")))
  | (with_reducible refine i_le ?_)
  | (with_reducible refine i_gt ?_)
  | (with_reducible refine i_ge ?_)
  | (with_reducible refine i_eq_int ?_)
  | (with_reducible refine i_eq_str ?_)
  | (with_reducible refine i_ne_int ?_)
  | (with_reducible refine i_ne_str ?_)
  | (with_reducible refine i_eq_bl ?_)
  | (with_reducible refine i_ne_bl ?_)
  | (with_reducible refine i_in_sg ?_)
  | (with_reducible refine i_notIn_sg ?_)
  | (with_reducible refine i_call ?_)
  | (with_reducible refine i_callS ?_)
  | (with_reducible refine i_sp1 ?_)
  | (with_reducible refine i_sp2 ?_)
  | (with_reducible refine i_sp3 ?_)
  | (with_reducible refine i_sp4 ?_)
  | (with_reducible refine i_sp1' ?_)
  | (with_reducible refine i_sp2' ?_)
  | (with_reducible refine i_sp3' ?_)
  | ((with_reducible refine' i_ix_lst ?h1 ?h2 ?_); (case h1 => walk_at "sq"); (case h2 => first | exact atI_nat rfl | rfl))
  | ((with_reducible refine' i_ix_tup ?h1 ?h2 ?_); (case h1 => walk_at "st"); (case h2 => first | exact atI_nat rfl | rfl))
  | (with_reducible refine i_gsub ?_)
  | (with_reducible refine i_par ?_)
  | (with_reducible refine i_lstRg1 ?_)
  | (with_reducible refine i_app ?_)
  | (with_reducible refine i_par2 ?_)
  | ((with_reducible refine' i_aug ?h1 ?_); (case h1 => rfl))
  | (with_reducible refine i_ipI ?_)
  | ((with_reducible refine' i_gtup2 ?h1 ?_); (case h1 => walk_at "st"))
  | (with_reducible refine i_int_bl ?_)
  | (with_reducible refine i_raise ?_)
  | (with_reducible refine i_mkE ?_)
  | (with_reducible refine i_ex1 ?_)
  | (with_reducible refine i_and ?_)
  | (with_reducible refine i_or ?_)
  | (with_reducible refine i_not ?_)
  | (with_reducible refine i_tt ?_)
  | (with_reducible refine i_ff ?_)
  | (with_reducible refine i_nott ?_)
  | (with_reducible refine i_notf ?_)
  | (with_reducible refine i_andV ?_)
  | (with_reducible refine i_orV ?_)
  | (with_reducible refine i_notV ?_)
  | (with_reducible refine i_ifE ?_)
  | (with_reducible refine i_tup ?_)
  | (with_reducible refine i_lst ?_)
  | (with_reducible refine i_un ?_)
  | (with_reducible refine i_neg ?_)
  | (with_reducible refine i_chain ?_)
  | (with_reducible refine i_next ?_)
  | (with_reducible refine i_retN ?_)
  | (with_reducible refine i_drop ?_)
  | (with_reducible refine i_int_int ?_)
  | (with_reducible refine i_abs ?_)
  | (with_reducible refine i_m1c ?_)
  | (with_reducible refine i_is_non ?_)
  | (with_reducible refine i_is_int ?_)
  | (with_reducible refine i_is_bl ?_)
  | (with_reducible refine i_isn_bl ?_)
  | (with_reducible refine i_is_str ?_)
  | (with_reducible refine i_is_ref ?_)
  | (with_reducible refine i_isn_non ?_)
  | (with_reducible refine i_isn_int ?_)
  | (with_reducible refine i_isn_str ?_)
  | (with_reducible refine i_isn_ref ?_)
  | (with_reducible refine i_len_str ?h1 ?_; (case h1 => walk_at "o"))
  | (with_reducible refine i_callD ?_)
  | (with_reducible refine i_spD2 ?_)
  | (with_reducible refine i_spM1 ?_)
  | (with_reducible refine i_spM2 ?_)
  | (with_reducible refine i_spM3 ?_)
  | (with_reducible refine i_spM4 ?_)
  | (with_reducible refine i_spM3d ?_)
  | (with_reducible refine i_tfld ?_)
  | (with_reducible refine i_sfld ?_)
  | (with_reducible refine i_meth ?_)
  | (with_reducible refine i_make ?_)
  | (with_reducible refine i_spl ?_)
  | (with_reducible refine i_mkE2 ?_)
  | (with_reducible refine i_ex2 ?_)
  | (with_reducible refine i_dget ?_)
  | (with_reducible refine i_tru ?_)
  | (with_reducible refine i_dput ?_)
  | (with_reducible refine i_dnotin ?_)
  | (with_reducible refine i_din ?_)
  | (with_reducible refine i_rev ?_)
  | (with_reducible refine i_isi_int_int ?_) | (with_reducible refine i_isi_int_bool ?_) | (with_reducible refine i_isi_int_str ?_) | (with_reducible refine i_isi_int_tuple ?_) | (with_reducible refine i_isi_int_list ?_)
  | (with_reducible refine i_isi_bl_int ?_) | (with_reducible refine i_isi_bl_bool ?_) | (with_reducible refine i_isi_bl_str ?_) | (with_reducible refine i_isi_bl_tuple ?_) | (with_reducible refine i_isi_bl_list ?_)
  | (with_reducible refine i_isi_str_int ?_) | (with_reducible refine i_isi_str_bool ?_) | (with_reducible refine i_isi_str_str ?_) | (with_reducible refine i_isi_str_tuple ?_) | (with_reducible refine i_isi_str_list ?_)
  | (with_reducible refine i_isi_non_int ?_) | (with_reducible refine i_isi_non_bool ?_) | (with_reducible refine i_isi_non_str ?_) | (with_reducible refine i_isi_non_tuple ?_) | (with_reducible refine i_isi_non_list ?_))
local macro_rules | `(tactic| walk_at "go") => `(tactic| (repeat' (walk_at "s")))
local macro_rules | `(tactic| walk_at "n") => `(tactic| simp only [wipe, List.map_cons, List.map_nil, List.set_cons_zero, List.set_cons_succ])
/-- the rows of a list of them -/
theorem rowsAt {H : Hp} {r : Addr} {R : Rws} (h : At H (.ref r) (.list (rowsD R))) : ∃ xs, H r = some (.lst xs) ∧ xs.length = R.length ∧ AtAll H xs (rowsD R) := by
  obtain ⟨a, xs, e, hH, _, al⟩ := h.listed
  cases e
  exact ⟨xs, hH, by rw [al.len]; unfold rowsD; rw [List.length_map], al⟩
theorem rowsGet {H : Hp} {xs : List V} {R : Rws} (al : AtAll H xs (rowsD R)) {i : Nat} {v : V} (h : xs[i]? = some v) : ∃ r, R[i]? = some r ∧ r ∈ R ∧ ∃ a b, v = .ref a ∧ H a = some (.tup [S r.1, .ref b]) ∧ H b = some (.tup (r.2.map fun n : Nat => V.int (n : Int))) := by
  obtain ⟨e, he, ae⟩ := al.get h
  unfold rowsD at he
  rw [List.getElem?_map] at he
  obtain ⟨r, hr, rfl⟩ := Option.map_eq_some_iff.mp he
  obtain ⟨a, b, rfl, h1, h2⟩ := rowD_at ae
  exact ⟨r, hr, List.mem_of_getElem? hr, a, b, rfl, h1, h2⟩
theorem intsAt {H : Hp} (ns : List Nat) : AtAll H (ns.map fun n : Nat => V.int (n : Int)) (ns.map fun n : Nat => PyData.int (n : Int)) := AtAll.map (fun n : Nat => At.int (n : Int)) ns
section
variable {P : Program} {w : World} {K : PySem.W.Frag} {mg : Str → Option Value} {base : Heap} {C_GlimError C_BadRow C_BadReader C_Reader : Addr}
def p_L_twin (K : PySem.W.Frag) : P2 := fun x y H Q _ => ∃ H0 d f rl R, x = .ref d.a ∧ y = .ref rl ∧ D2 K d f H0 H ∧ At H0 (.ref rl) (.list (rowsD R)) ∧ Good R ∧ R.length ≤ 100 ∧
  ∀ A H' r R2, Same H0 A → D2 K d f A H' → At A (.ref r) (.list (rowsD R2)) → Good R2 → R2.length = 2 * R.length → Q (.ref r) H'
theorem ok_L_twin (T : Txt K mg C_GlimError C_BadRow C_BadReader C_Reader) : OK P w K mg base CX0 3 "_law_twin" ["_law_draw_here", "_law_rows"] (sp2  (p_L_twin K)) := by
  refine OK.mk (k := 2) T.d_L_twin sc_L_twin len2 fun f cdv A outer s H vs Q E hr h => ?_
  obtain ⟨x, y, rfl, h⟩ := h
  refine ⟨_, (pss_cons (ps_set (i := 2) sc_L_twin.nd rfl (Or.inr rfl) (pe_callB (cLen K) (by rfl) T.b_len (by decide +kernel) (pa_cons (pv 1) pa_nil))) (pss_cons (ps_set (i := 3) sc_L_twin.nd rfl (Or.inl rfl) (pe_lst pa_nil)) (pss_cons (ps_for PassesOwn.never rfl (pi_range1 rfl T.b_range (pa_cons pe_int pa_nil)) (pg_name (i := 4) sc_L_twin.nd rfl (Or.inl rfl)) (pss_one (ps_for PassesOwn.never rfl (piAny K (pv 1)) (pg_name (i := 5) sc_L_twin.nd rfl (Or.inl rfl)) (Evl.pss_cut (ps_if (pt_cmpR (opEq K hr.units) (pe_ix (ixK K) (pv 5) pe_int (fun _ _ => rfl)) (pe_S []) (nomark _)) (pss_one (ps_setLc (i := 6) (own := [("_law_state", 7)]) (g := gName 7) (tt := tYes) (by rfl) sc_L_twin.nd rfl rfl (sw_true rfl rfl rfl (by decide +kernel)) (piAny K (pe_ix (ixK K) (pv 5) pe_int (fun _ _ => rfl))) (blkOk_by (own := [("_law_state", 7)]) (N := ["_law_draw_here", "_law_rows", "_law_many", "_law_found", "_law_turn", "_law_row", "_law_nexts", "_law_state"]) (sc := (defScope s_L_twin)) (by decide +kernel)) (fun _ _ _ _ _ => (pg_name (i := 7) sc_L_twin.nd rfl (Or.inl rfl))) (fun _ _ _ _ _ => pts_nil) (fun _ _ _ _ _ => (pe_op (opAdd K) (pv 7) (pe_op op_mulP (pv 2) (pe_f (ok_L_pick (K := K) T) (hr.mono (by decide)) pass0 (pa_cons (pv 0) (pa_cons pe_int pa_nil)))))))) (pss_one (ps_setLc (i := 6) (own := [("_law_state", 7)]) (g := gName 7) (tt := tYes) (by rfl) sc_L_twin.nd rfl rfl (sw_true rfl rfl rfl (by decide +kernel)) (piAny K (pe_ix (ixK K) (pv 5) pe_int (fun _ _ => rfl))) (blkOk_by (own := [("_law_state", 7)]) (N := ["_law_draw_here", "_law_rows", "_law_many", "_law_found", "_law_turn", "_law_row", "_law_nexts", "_law_state"]) (sc := (defScope s_L_twin)) (by decide +kernel)) (fun _ _ _ _ _ => (pg_name (i := 7) sc_L_twin.nd rfl (Or.inl rfl))) (fun _ _ _ _ _ => pts_nil) (fun _ _ _ _ _ => (pe_f (ok_L_pick (K := K) T) (hr.mono (by decide)) pass0 (pa_cons (pv 0) (pa_cons (pe_op op_mulP pe_int (pv 2)) pa_nil))))))) (pss_one (ps_expr (peApp K (pv 3) (pa_cons (pe_tup (pa_cons (pe_ix (ixK K) (pv 5) pe_int (fun _ _ => rfl)) (pa_cons (pe_callTy (cTup K) (by rfl) T.b_tuple (by decide +kernel) (pa_cons (pv 6) pa_nil)) pa_nil))) pa_nil)))))))) (pss_one (ps_ret (pv 3)))))), ?_⟩
  show (_ : TS) { nx := fun _ H' => Q .non H', rt := Q } [some x, some y, none, none, none, none, none, none] H
  obtain ⟨H0, d, f, rl, R, rfl, rfl, dr, hR, g, h100, q⟩ := h
  obtain ⟨xs, hxs, xl, al⟩ := rowsAt hR
  have one := g.one
  walk_at "go"
  refine i_len_lst (.inl (.inl (dr.old hxs))) ?_
  walk_at "go"
  rw [xl]
  refine i_new (by show 0 ≤ 100000; omega) fun L nL => ?_
  walk_at "go"
  generalize hm : R.length = m at *
  refine f_rng1 2 (fun R k => by walk_at "go"; exact k) (by omega) (fun i σ G => ∃ v4 v5 v6 v7 R2, σ = [some (.ref d.a), some (.ref rl), some (.int (m : Int)), some (.ref L), v4, v5, v6, v7] ∧ LB K d f H0 L G (rowsD R2) ∧ R2.length = i * m ∧ ∀ r ∈ R2, RowOK (2 * m) r)
    ⟨none, none, none, none, [], rfl, LB.new dr nL, by simp, fun r hr => absurd hr (by simp)⟩ ?_ ?_
  · rintro i σ G hi ⟨v4, v5, v6, v7, R2, rfl, lb, rl2, hR2⟩
    show (_ : TS) _ [some (.ref d.a), some (.ref rl), some (.int (m : Int)), some (.ref L), some (.int (i : Int)), v5, v6, v7] G
    have sG : ∀ {G R2}, LB K d f H0 L G (rowsD R2) → Same H0 G := fun lb => by
      obtain ⟨A1, xs, fr, s1, _, _, _, d2, k⟩ := lb.op
      exact s1.trans d2.1
    walk_at "go"
    refine i_forL (xs := xs) (.inl (.inl (sG lb _ _ hxs))) (fun j σ G => ∃ v5 v6 v7 R2, σ = [some (.ref d.a), some (.ref rl), some (.int (m : Int)), some (.ref L), some (.int (i : Int)), v5, v6, v7] ∧ LB K d f H0 L G (rowsD R2) ∧ R2.length = i * m + j ∧ ∀ r ∈ R2, RowOK (2 * m) r)
      ⟨v5, v6, v7, R2, rfl, lb, rl2, hR2⟩ ?_ ?_ ?_
    · rintro j σ G _ ⟨v5, v6, v7, R2, rfl, lb, _⟩
      exact .inl (.inl (sG lb _ _ hxs))
    · clear lb rl2 hR2
      rintro j x σ G hj ⟨v5, v6, v7, R2, rfl, lb, rl2, hR2⟩
      show (_ : TS) _ [some (.ref d.a), some (.ref rl), some (.int (m : Int)), some (.ref L), some (.int (i : Int)), some x, v6, v7] G
      obtain ⟨A1, ys, fr, s1, _, yl, _, d2, k⟩ := lb.op
      obtain ⟨r, hr, rm, a, b, rfl, ha0, hb0⟩ := rowsGet (al.same s1) hj
      have ok := g.row r rm
      rw [hm] at ok
      have ha := d2.old ha0
      walk_at "go"
      refine i_cut (fun σ G' => ∃ Dl, ∃ ns : List Nat, ∃ A2 v7, σ = [some (.ref d.a), some (.ref rl), some (.int (m : Int)), some (.ref L), some (.int (i : Int)), some (.ref a), some (.ref Dl), v7] ∧ Same A1 A2 ∧ D2 K d fr A2 G' ∧ A2 Dl = some (.lst (ns.map fun n : Nat => V.int (n : Int))) ∧ ns.length = 4 ∧ ∀ n ∈ ns, n < 2 * m) ?_ ?_
      · walk_at "go"
        have fin : ∀ {A2 G2 Dl zs ds}, Same A1 A2 → D2 K d fr A2 G2 → A2 Dl = some (.lst zs) → AtAll A2 zs ds → ds.length = (r.2.map fun n : Nat => PyData.int (n : Int)).length → (∀ (i : Nat) e, ds[i]? = some e → ∃ n : Nat, n < 2 * m ∧ e = .int (n : Int)) →
            ∃ Dl', ∃ ns : List Nat, ∃ A2' v7', ([some (.ref d.a), some (.ref rl), some (.int (m : Int)), some (.ref L), some (.int (i : Int)), some (.ref a), some (.ref Dl), v7] : L2.St) = [some (.ref d.a), some (.ref rl), some (.int (m : Int)), some (.ref L), some (.int (i : Int)), some (.ref a), some (.ref Dl'), v7'] ∧ Same A1 A2' ∧ D2 K d fr A2' G2 ∧ A2' Dl' = some (.lst (ns.map fun n : Nat => V.int (n : Int))) ∧ ns.length = 4 ∧ ∀ n ∈ ns, n < 2 * m := fun s2 d3 e al2 dl hP => by
          obtain ⟨ns, rfl, hns⟩ := ints_ex hP
          rw [ints_of al2] at e
          rw [List.length_map, List.length_map, ok.2.1] at dl
          exact ⟨_, ns, _, _, rfl, s2, d3, e, dl, hns⟩
        refine i_dec (fun e => ?_) (fun e => ?_)
        · walk_at "go"
          refine c_seqB (a := b) d2 (.inr hb0) (intsAt r.2) (fun R k => by walk_at "go"; exact k) (by rw [List.length_map, ok.2.1]; decide) (fun _ e => ∃ n : Nat, n < 2 * m ∧ e = .int (n : Int)) (fun _ => rfl) (fun j x e A2 G2 fr2 hj hx s2 d4 QV k2 => ?_) (fun A2 G2 Dl ys ds s2 d4 hDl al dl hP => ?_)
          · rw [List.getElem?_map] at hj
            obtain ⟨n, hn, rfl⟩ := Option.map_eq_some_iff.mp hj
            obtain rfl := hx.intd
            have hnm := ok.2.2 n (List.mem_of_getElem? hn)
            walk_at "n"
            walk_at "go"
            refine pick2 d4 (by decide) fun n2 G3 d5 b5 => ?_
            obtain ⟨n2, rfl, hn9⟩ := to_nat (t := 2) b5 (by decide)
            walk_at "go"
            have e : (n : Int) + (m : Int) * (n2 : Int) = ((n + m * n2 : Nat) : Int) := by rw [Int.natCast_add, Int.natCast_mul]
            rw [e]
            refine k2 A2 G3 _ _ (Same.refl _) d5 (.int _) ⟨_, ?_, rfl⟩
            rcases (show n2 = 0 ∨ n2 = 1 by omega) with rfl | rfl <;> omega
          · exact fin s2 d4 hDl al dl hP
        · walk_at "go"
          refine c_seqB (a := b) d2 (.inr hb0) (intsAt r.2) (fun R k => by walk_at "go"; exact k) (by rw [List.length_map, ok.2.1]; decide) (fun _ e => ∃ n : Nat, n < 2 * m ∧ e = .int (n : Int)) (fun _ => rfl) (fun j x e A2 G2 fr2 hj hx s2 d4 QV k2 => ?_) (fun A2 G2 Dl ys ds s2 d4 hDl al dl hP => ?_)
          · walk_at "n"
            walk_at "go"
            have e2 : (2 : Int) * (m : Int) = ((2 * m : Nat) : Int) := by rw [Int.natCast_mul]; rfl
            rw [e2]
            refine pick2 d4 (by omega) fun n2 G3 d5 b5 => ?_
            obtain ⟨n2, rfl, hn9⟩ := to_nat b5 (by omega)
            exact k2 A2 G3 _ _ (Same.refl _) d5 (.int _) ⟨_, hn9, rfl⟩
          · exact fin s2 d4 hDl al dl hP
      rintro σ G1 ⟨Dl, ns, A2, v7, rfl, s2, d3, hDl, n4, hns⟩
      walk_at "go"
      obtain ⟨hL, _, _, _, _⟩ := k A2 G1 s2 d3
      have ha3 := d3.old (s2 _ _ ha0)
      refine i_appAt hL ?_
      walk_at "go"
      refine i_tuple_lst (.inl (.inl (d3.old hDl))) fun l1 nl1 => ?_
      walk_at "go"
      refine i_new (by show 2 ≤ 100000; omega) fun l2 nl2 => ?_
      walk_at "go"
      have d12 : l1 ≠ l2 := ne_of_none upd_same nl2
      have d5 := d3.new (o := .tup (ns.map fun n : Nat => V.int (n : Int))) nl1
      have d6 := d5.new (o := .tup [S r.1, .ref l1]) nl2
      have row := row_at ok.1 (by omega) d12 (intsAt ns) (d3.free nl1) (d5.free nl2)
      obtain ⟨hL, _, _, app, _⟩ := k _ _ (s2.trans ((same_upd (d3.free nl1)).trans (same_upd (d5.free nl2)))) d6
      have jm : j < m := by
        have := (List.getElem?_eq_some_iff.mp hj).1
        omega
      refine i_appEnd hL (by
        have : i * m ≤ 1 * m := Nat.mul_le_mul_right m (by omega)
        rw [yl]; unfold rowsD; rw [List.length_map]; omega) ?_
      refine ⟨_, _, _, R2 ++ [(r.1, ns)], rfl, ?_, by rw [List.length_append, rl2]; rfl, fun r' hr' => ?_⟩
      · have := app _ _ row
        unfold rowsD at *
        rw [List.map_append]
        exact this
      · rcases List.mem_append.mp hr' with hr' | hr'
        · exact hR2 r' hr'
        · rw [List.mem_singleton.mp hr']; exact ⟨ok.1, n4, hns⟩
    · rintro σ G ⟨v5, v6, v7, R2, rfl, lb, rl2, hR2⟩
      exact ⟨_, _, _, _, R2, rfl, lb, by rw [rl2, xl, Nat.succ_mul], hR2⟩
  · rintro σ G ⟨v4, v5, v6, v7, R2, rfl, lb, rl2, hR2⟩
    walk_at "go"
    obtain ⟨A1, xs, s1, d2, _, _, aL, _⟩ := lb.cl (by unfold rowsD; rw [List.length_map]; omega)
    exact q A1 G L R2 s1 d2 aL (good_of hR2 rl2 (by omega) (by omega)) (by omega)
/-- ['', n1, n2][n] -/
theorem three_names {n1 n2 : List Nat} {n : Int} (w1 : isMkL n1 = true) (w2 : isMkL n2 = true) (bn : Btw n 3) : ∃ w, atI [S [], S n1, S n2] n = some (S w) ∧ isMkL w = true := by
  have h0 := bn.1
  have h1 := bn.2.1 (by decide)
  have : n = 0 ∨ n = 1 ∨ n = 2 := by omega
  rcases this with rfl | rfl | rfl
  · exact ⟨[], rfl, rfl⟩
  · exact ⟨n1, rfl, w1⟩
  · exact ⟨n2, rfl, w2⟩
theorem i_listT {K : PySem.W.Frag} {H : Hp} {Q : VK} {a : Addr} {xs : List V} (h : H a = some (.tup xs)) (q : ∀ l, H l = none → Q (.ref l) (upd H l (.lst xs))) : rListP K [.ref a] H Q := ⟨a, xs, rfl, .inr (.inl (.inl h)), q⟩
theorem map_set {α β : Type} (f : α → β) (l : List α) (i : Nat) (x : α) : (l.map f).set i (f x) = (l.set i x).map f := by rw [List.map_set]
def p_L_changed (K : PySem.W.Frag) : P3 := fun x y z H Q _ => ∃ H0 d f rl nl R n1 n2, x = .ref d.a ∧ y = .ref rl ∧ z = .ref nl ∧ D2 K d f H0 H ∧ At H0 (.ref rl) (.list (rowsD R)) ∧ H0 nl = some (.lst ([n1, n2].map S)) ∧ n1 ∈ wordsN ∧ n2 ∈ wordsN ∧ Good R ∧ R.length ≤ 200 ∧
  ∀ A H' r R2, Same H0 A → D2 K d f A H' → At A (.ref r) (.list (rowsD R2)) → Good R2 → R2.length = R.length → Q (.ref r) H'
theorem ok_L_changed (T : Txt K mg C_GlimError C_BadRow C_BadReader C_Reader) : OK P w K mg base CX0 3 "_law_changed" ["_law_draw_here", "_law_rows", "_law_names_here"] (sp3  (p_L_changed K)) := by
  refine OK.mk (k := 2) T.d_L_changed sc_L_changed len3 fun f cdv A outer s H vs Q E hr h => ?_
  obtain ⟨x, y, z, rfl, h⟩ := h
  refine ⟨_, (pss_cons (ps_setLc (i := 3) (own := [("_law_row", 7)]) (g := gName 7) (tt := tYes) (by rfl) sc_L_changed.nd rfl rfl (sw_true rfl rfl rfl (by decide +kernel)) (piAny K (pv 1)) (blkOk_by (own := [("_law_row", 7)]) (N := ["_law_draw_here", "_law_rows", "_law_names_here", "_law_found", "_law_place", "_law_word", "_law_nexts", "_law_row"]) (sc := (defScope s_L_changed)) (by decide +kernel)) (fun _ _ _ _ _ => (pg_name (i := 7) sc_L_changed.nd rfl (Or.inl rfl))) (fun _ _ _ _ _ => pts_nil) (fun _ _ _ _ _ => (pv 7))) (pss_cons (ps_set (i := 4) sc_L_changed.nd rfl (Or.inl rfl) (pe_f (ok_L_pick (K := K) T) (hr.mono (by decide)) pass0 (pa_cons (pv 0) (pa_cons (pe_callB (cLen K) (by rfl) T.b_len (by decide +kernel) (pa_cons (pv 1) pa_nil)) pa_nil)))) (pss_cons (ps_set (i := 5) sc_L_changed.nd rfl (Or.inl rfl) (pe_ix (ixK K) (pe_ix (ixK K) (pv 1) (pv 4) (fun _ _ => rfl)) pe_int (fun _ _ => rfl))) (pss_cons (ps_set (i := 6) sc_L_changed.nd rfl (Or.inl rfl) (pe_callTy (cListP K) (by rfl) T.b_list (by decide +kernel) (pa_cons (pe_ix (ixK K) (pe_ix (ixK K) (pv 1) (pv 4) (fun _ _ => rfl)) pe_int (fun _ _ => rfl)) pa_nil))) (Evl.pss_cut (ps_if (pt_cmpR (opEq K hr.units) (pe_f (ok_L_pick (K := K) T) (hr.mono (by decide)) pass0 (pa_cons (pv 0) (pa_cons pe_int pa_nil))) pe_int (nomark _)) (pss_one (ps_set (i := 5) sc_L_changed.nd rfl (Or.inl rfl) (pe_ix (ixK K) (pe_lst (pa_cons (pe_S []) (pa_cons (pe_ix (ixK K) (pv 2) pe_int (fun _ _ => rfl)) (pa_cons (pe_ix (ixK K) (pv 2) pe_int (fun _ _ => rfl)) pa_nil)))) (pe_f (ok_L_pick (K := K) T) (hr.mono (by decide)) pass0 (pa_cons (pv 0) (pa_cons pe_int pa_nil))) (fun _ _ => rfl)))) (pss_one (ps_asg (pe_f (ok_L_pick (K := K) T) (hr.mono (by decide)) pass0 (pa_cons (pv 0) (pa_cons (pe_callB (cLen K) (by rfl) T.b_len (by decide +kernel) (pa_cons (pv 1) pa_nil)) pa_nil))) (pg_sub (pv 6) (pe_f (ok_L_pick (K := K) T) (hr.mono (by decide)) pass0 (pa_cons (pv 0) (pa_cons pe_int pa_nil))) set_list)))) (pss_cons (ps_asg (pe_tup (pa_cons (pv 5) (pa_cons (pe_callTy (cTup K) (by rfl) T.b_tuple (by decide +kernel) (pa_cons (pv 6) pa_nil)) pa_nil))) (pg_sub (pv 3) (pv 4) set_list)) (pss_one (ps_ret (pv 3))))))))), ?_⟩
  show (_ : TS) { nx := fun _ H' => Q .non H', rt := Q } [some x, some y, some z, none, none, none, none, none] H
  obtain ⟨H0, d, f, rl, nl, R, n1, n2, rfl, rfl, rfl, dr, hR, hn, w1, w2, g, h200, q⟩ := h
  obtain ⟨xs, hxs, xl, al⟩ := rowsAt hR
  have one := g.one
  have rd : (rowsD R).length = R.length := by unfold rowsD; rw [List.length_map]
  walk_at "go"
  refine c_seqL (a := rl) dr (.inl hxs) al (fun R k => by walk_at "go"; exact k) (by rw [rd]; omega) (fun i e => (rowsD R)[i]? = some e) (fun _ => rfl) (fun j x e A2 G2 fr2 hj hx s2 d4 QV k2 => ?_) (fun G1 F ds lb dl hP => ?_)
  · walk_at "n"
    walk_at "go"
    exact k2 A2 G2 _ _ (Same.refl _) d4 hx hj
  obtain rfl : ds = rowsD R := by
    refine List.ext_getElem? fun i => ?_
    cases e : ds[i]? with
    | none => rw [List.getElem?_eq_none (by rw [← dl]; exact List.getElem?_eq_none_iff.mp e)]
    | some v => rw [hP i v e]
  obtain ⟨A1, ys, fr, s1, _, yl, _, d2, k⟩ := lb.op
  have hxs1 := s1 _ _ hxs
  have hn1 := s1 _ _ hn
  walk_at "go"
  refine i_len_lst (.inl (.inl (d2.old hxs1))) ?_
  walk_at "go"
  rw [xl]
  refine pick2 d2 (by omega) fun n G2 d3 bn => ?_
  obtain ⟨n, rfl, hnl⟩ := to_nat bn one
  have hv : xs[n]? = some xs[n] := List.getElem?_eq_getElem (by omega)
  obtain ⟨r, hr, rm, a, b, ev, ha0, hb0⟩ := rowsGet (al.same s1) hv
  have ok := g.row r rm
  walk_at "go"
  refine i_ix_lst (.inl (.inl (d3.old hxs1))) (atI_nat hv) ?_
  rw [ev]
  have ha := d3.old ha0
  walk_at "go"
  refine i_ix_lst (.inl (.inl (d3.old hxs1))) (atI_nat hv) ?_
  rw [ev]
  walk_at "go"
  refine i_listT (d3.old hb0) fun N nN => ?_
  have d4 := d3.new (o := .lst (r.2.map fun n : Nat => V.int (n : Int))) nN
  have lbN : LB K d fr A1 N (upd G2 N (.lst (r.2.map fun n : Nat => V.int (n : Int)))) (r.2.map fun n : Nat => PyData.int (n : Int)) := LB.start d4 (d3.free nN) (intsAt _) d3.cel
  generalize upd G2 N (.lst (r.2.map fun n : Nat => V.int (n : Int))) = G3 at *
  walk_at "go"
  refine i_cut (fun σ G => ∃ w, ∃ ns : List Nat, σ = [some (.ref d.a), some (.ref rl), some (.ref nl), some (.ref F), some (.int (n : Int)), some (S w), some (.ref N), none] ∧ isMkL w = true ∧ ns.length = 4 ∧ (∀ k ∈ ns, k < R.length) ∧ LB K d fr A1 N G (ns.map fun n : Nat => PyData.int (n : Int))) ?_ ?_
  · obtain ⟨B1, zs, fr2, t1, _, zl, _, e2, k2⟩ := lbN.op
    rw [List.length_map, ok.2.1] at zl
    walk_at "go"
    refine pick2 e2 (by decide) fun n3 G4 e3 b3 => ?_
    walk_at "go"
    refine i_dec (fun e => ?_) (fun e => ?_)
    · have hnB := e3.old (t1 _ _ hn1)
      walk_at "go"
      refine i_new (by show 3 ≤ 100000; omega) fun t nt => ?_
      have e4 := e3.new (o := .lst [S [], S n1, S n2]) nt
      walk_at "go"
      refine pick2 e4 (by decide) fun n4 G5 e5 b4 => ?_
      obtain ⟨w, hw1, hw2⟩ := three_names (wordsN_mk n1 w1) (wordsN_mk n2 w2) b4
      refine i_ix_lst (.inl (.inl (e5.old upd_same))) hw1 ?_
      walk_at "go"
      obtain ⟨_, _, lb', _, _⟩ := k2 _ G5 (same_upd (e3.free nt)) e5
      exact ⟨w, r.2, rfl, hw2, ok.2.1, ok.2.2, lb'⟩
    · walk_at "go"
      refine i_len_lst (.inl (.inl (e3.old (t1 _ _ hxs1)))) ?_
      rw [xl]
      walk_at "go"
      refine pick2 e3 (by omega) fun n4 G5 e4 b4 => ?_
      obtain ⟨n4, rfl, hn4⟩ := to_nat b4 one
      walk_at "go"
      refine pick2 e4 (by decide) fun n5 G6 e5 b5 => ?_
      obtain ⟨n5, rfl, hn5⟩ := to_nat (t := 4) b5 (by decide)
      obtain ⟨hL, _, _, _, set⟩ := k2 B1 G6 (Same.refl _) e5
      refine i_setL n5 hL (Evl.ixN_nat (by omega)) rfl ?_
      refine ⟨r.1, r.2.set n5 n4, rfl, ok.1, by rw [List.length_set]; exact ok.2.1, fun k hk => ?_, ?_⟩
      · rcases List.mem_or_eq_of_mem_set hk with hk | rfl
        · exact ok.2.2 k hk
        · exact hn4
      · rw [← map_set (fun n : Nat => PyData.int (n : Int))]
        exact set _ _ n5 (.int _)
  rintro σ G4 ⟨w, ns, rfl, hw, n4, hns, lbN⟩
  obtain ⟨B1, zs, t1, e1, hN, alN, _, _⟩ := lbN.cl (by rw [List.length_map]; omega)
  rw [ints_of alN] at hN
  walk_at "go"
  refine i_tuple_lst (.inl (.inl (e1.old hN))) fun l1 nl1 => ?_
  walk_at "go"
  refine i_new (by show 2 ≤ 100000; omega) fun l2 nl2 => ?_
  walk_at "go"
  have d12 : l1 ≠ l2 := ne_of_none upd_same nl2
  have d5 := e1.new (o := .tup (ns.map fun n : Nat => V.int (n : Int))) nl1
  have d6 := d5.new (o := .tup [S w, .ref l1]) nl2
  have row := row_at hw (by omega) d12 (intsAt ns) (e1.free nl1) (d5.free nl2)
  obtain ⟨hL, _, _, _, set⟩ := k _ _ (t1.trans ((same_upd (e1.free nl1)).trans (same_upd (d5.free nl2)))) d6
  refine i_setL n hL (Evl.ixN_nat (by rw [yl, rd]; exact hnl)) rfl ?_
  walk_at "go"
  have lb := set _ _ n row
  have es : (rowsD R).set n (rowD (w, ns)) = rowsD (R.set n (w, ns)) := map_set rowD R n (w, ns)
  rw [es] at lb
  obtain ⟨A2, us, s2, d7, _, _, aL, _⟩ := lb.cl (by unfold rowsD; rw [List.length_map, List.length_set]; omega)
  refine q A2 _ F (R.set n (w, ns)) s2 d7 aL (good_of (m := R.length) (fun r' hr' => ?_) (by rw [List.length_set]) one (by omega)) (by rw [List.length_set])
  rcases List.mem_or_eq_of_mem_set hr' with h | rfl
  · exact g.row r' h
  · exact ⟨hw, n4, hns⟩
end
end K47
namespace K47
open PySem PySem.Spec PyProof.Rows L2 Fg
local macro_rules | `(tactic| walk_at "sq") => `(tactic| first
  | assumption
  | exact .inl (.inl (by assumption))
  | exact .inl (.inl upd_same))
local macro_rules | `(tactic| walk_at "st") => `(tactic| first
  | assumption
  | exact .inl (.inl (by assumption))
  | exact .inl (.inl upd_same))
local macro_rules | `(tactic| walk_at "o") => `(tactic| first
  | omega
  | assumption
  | (simp only [List.length_append, List.length_take, List.length_drop, List.length_cons, List.length_nil, List.length_singleton, List.length_map, List.length_range, Int.toNat_natCast] ; omega))
local macro_rules | `(tactic| walk_at "s") => `(tactic| first
  | (with_reducible refine i_seq ?_)
  | (with_reducible refine i_asg ?_)
  | ((with_reducible refine' i_var ?h1 ?_); (case h1 => rfl))
  | (with_reducible refine i_c ?_)
  | ((with_reducible refine' i_gname' ?h1 ?_); (case h1 => (simp only [List.set_cons_zero, List.set_cons_succ]; rfl)))
  | (with_reducible refine i_op ?_)
  | (with_reducible refine i_ifS ?_)
  | (with_reducible refine i_for ?_)
  | (with_reducible refine i_test ?_)
  | (with_reducible refine i_B ?_)
  | (with_reducible refine i_exbl ?_)
  | (with_reducible refine i_exint ?_)
  | (with_reducible refine i_cb ?_)
  | (with_reducible refine i_nil ?_)
  | (with_reducible refine i_cons ?_)
  | (with_reducible refine i_ret ?_)
  | (with_reducible refine i_sl ?_)
  | (with_reducible refine i_nopart ?_)
  | (with_reducible refine i_part ?_)
  | (with_reducible refine i_add_int ?_)
  | (with_reducible refine i_sub ?_)
  | (with_reducible refine i_lt ?_)
  | ((with_reducible refine' i_mod ?h1 ?_); (case h1 => walk_at "o"))
  | ((with_reducible refine' i_fdiv ?h1 ?_); (case h1 => (refine cdiv_small ?_ ?_ <;> walk_at "o")))
  | ((with_reducible refine' i_sl_to ?h1 ?h2 ?_); (case h1 => walk_at "o"); (case h2 => walk_at "o"))
  | ((with_reducible refine' i_sl_from ?h1 ?h2 ?_); (case h1 => walk_at "o"); (case h2 => walk_at "o"))
  | ((with_reducible refine' i_add_str ?h1 ?_); (case h1 => walk_at "o"))
  | ((with_reducible refine' i_mul_int ?h1 ?_); (case h1 => first | (refine mul_small ?_ ?_ <;> walk_at "o") | (refine mul_smallR ?_ ?_ <;> walk_at "o")))
  | (with_reducible refine i_le ?_)
  | (with_reducible refine i_gt ?_)
  | (with_reducible refine i_ge ?_)
  | (with_reducible refine i_eq_int ?_)
  | (with_reducible refine i_eq_str ?_)
  | (with_reducible refine i_ne_int ?_)
  | (with_reducible refine i_ne_str ?_)
  | (with_reducible refine i_eq_bl ?_)
  | (with_reducible refine i_ne_bl ?_)
  | (with_reducible refine i_in_sg ?_)
  | (with_reducible refine i_notIn_sg ?_)
  | (with_reducible refine i_call ?_)
  | (with_reducible refine i_callS ?_)
  | (with_reducible refine i_sp1 ?_)
  | (with_reducible refine i_sp2 ?_)
  | (with_reducible refine i_sp3 ?_)
  | (with_reducible refine i_sp4 ?_)
  | (with_reducible refine i_sp1' ?_)
  | (with_reducible refine i_sp2' ?_)
  | (with_reducible refine i_sp3' ?_)
  | ((with_reducible refine' i_ix_lst ?h1 ?h2 ?_); (case h1 => walk_at "sq"); (case h2 => first | exact atI_nat rfl | rfl))
  | ((with_reducible refine' i_ix_tup ?h1 ?h2 ?_); (case h1 => walk_at "st"); (case h2 => first | exact atI_nat rfl | rfl))
  | (with_reducible refine i_gsub ?_)
  | (with_reducible refine i_par ?_)
  | (with_reducible refine i_lstRg1 ?_)
  | (with_reducible refine i_app ?_)
  | (with_reducible refine i_par2 ?_)
  | ((with_reducible refine' i_aug ?h1 ?_); (case h1 => rfl))
  | (with_reducible refine i_ipI ?_)
  | ((with_reducible refine' i_gtup2 ?h1 ?_); (case h1 => walk_at "st"))
  | (with_reducible refine i_int_bl ?_)
  | (with_reducible refine i_raise ?_)
  | (with_reducible refine i_mkE ?_)
  | (with_reducible refine i_ex1 ?_)
  | (with_reducible refine i_and ?_)
  | (with_reducible refine i_or ?_)
  | (with_reducible refine i_not ?_)
  | (with_reducible refine i_tt ?_)
  | (with_reducible refine i_ff ?_)
  | (with_reducible refine i_nott ?_)
  | (with_reducible refine i_notf ?_)
  | (with_reducible refine i_andV ?_)
  | (with_reducible refine i_orV ?_)
  | (with_reducible refine i_notV ?_)
  | (with_reducible refine i_ifE ?_)
  | (with_reducible refine i_tup ?_)
  | (with_reducible refine i_lst ?_)
  | (with_reducible refine i_un ?_)
  | (with_reducible refine i_neg ?_)
  | (with_reducible refine i_chain ?_)
  | (with_reducible refine i_next ?_)
  | (with_reducible refine i_retN ?_)
  | (with_reducible refine i_drop ?_)
  | (with_reducible refine i_int_int ?_)
  | (with_reducible refine i_abs ?_)
  | (with_reducible refine i_m1c ?_)
  | (with_reducible refine i_is_non ?_)
  | (with_reducible refine i_is_int ?_)
  | (with_reducible refine i_is_bl ?_)
  | (with_reducible refine i_isn_bl ?_)
  | (with_reducible refine i_is_str ?_)
  | (with_reducible refine i_is_ref ?_)
  | (with_reducible refine i_isn_non ?_)
  | (with_reducible refine i_isn_int ?_)
  | (with_reducible refine i_isn_str ?_)
  | (with_reducible refine i_isn_ref ?_)
  | (with_reducible refine i_len_str ?h1 ?_; (case h1 => walk_at "o"))
  | (with_reducible refine i_callD ?_)
  | (with_reducible refine i_spD2 ?_)
  | (with_reducible refine i_spM1 ?_)
  | (with_reducible refine i_spM2 ?_)
  | (with_reducible refine i_spM3 ?_)
  | (with_reducible refine i_spM4 ?_)
  | (with_reducible refine i_spM3d ?_)
  | (with_reducible refine i_tfld ?_)
  | (with_reducible refine i_sfld ?_)
  | (with_reducible refine i_meth ?_)
  | (with_reducible refine i_make ?_)
  | (with_reducible refine i_spl ?_)
  | (with_reducible refine i_mkE2 ?_)
  | (with_reducible refine i_ex2 ?_)
  | (with_reducible refine i_dget ?_)
  | (with_reducible refine i_tru ?_)
  | (with_reducible refine i_dput ?_)
  | (with_reducible refine i_dnotin ?_)
  | (with_reducible refine i_din ?_)
  | (with_reducible refine i_rev ?_)
  | (with_reducible refine i_isi_int_int ?_) | (with_reducible refine i_isi_int_bool ?_) | (with_reducible refine i_isi_int_str ?_) | (with_reducible refine i_isi_int_tuple ?_) | (with_reducible refine i_isi_int_list ?_)
  | (with_reducible refine i_isi_bl_int ?_) | (with_reducible refine i_isi_bl_bool ?_) | (with_reducible refine i_isi_bl_str ?_) | (with_reducible refine i_isi_bl_tuple ?_) | (with_reducible refine i_isi_bl_list ?_)
  | (with_reducible refine i_isi_str_int ?_) | (with_reducible refine i_isi_str_bool ?_) | (with_reducible refine i_isi_str_str ?_) | (with_reducible refine i_isi_str_tuple ?_) | (with_reducible refine i_isi_str_list ?_)
  | (with_reducible refine i_isi_non_int ?_) | (with_reducible refine i_isi_non_bool ?_) | (with_reducible refine i_isi_non_str ?_) | (with_reducible refine i_isi_non_tuple ?_) | (with_reducible refine i_isi_non_list ?_))
local macro_rules | `(tactic| walk_at "go") => `(tactic| (repeat' (walk_at "s")))
local macro_rules | `(tactic| walk_at "n") => `(tactic| simp only [wipe, List.map_cons, List.map_nil, List.set_cons_zero, List.set_cons_succ])
theorem Dr.ext {K : PySem.W.Frag} {d : Dd} {Hk H A1 G1 : Hp} (dr : Dr K d Hk H) (x : Ext Hk H A1 G1) : Dr K d A1 G1 := by
  have n0 : Hk d.a = none := dr.2.1
  have hne : H d.a ≠ none := by
    obtain ⟨_, _, _, _, p, b, u, x', s, ha, _⟩ := dr
    rw [ha]; simp
  exact (dr.same x.gg).know x.aa x.ag (x.free n0 hne)
theorem wo_upd {A : Hp} {p : Addr} {o : HO} (e : A p = some o) : upd (wo A p) p o = A := by
  funext b
  by_cases h : b = p
  · rw [h, upd_same, e]
  · rw [upd_ne h, wo_ne h]
theorem same_wo {A0 A : Hp} {p : Addr} (s : Same A0 A) (n : A0 p = none) : Same A0 (wo A p) := fun b o e => by
  rw [wo_ne (ne_of_none e n)]
  exact s _ _ e
theorem noL_ints : ∀ ns : List Nat, noLs (ns.map fun n : Nat => PyData.int (n : Int)) = true
  | [] => rfl
  | n :: r => noL_ints r
theorem noL_row (r : List Nat × List Nat) : noL (rowD r) = true := by
  show (true && (noLs (r.2.map fun n : Nat => PyData.int (n : Int)) && true)) = true
  rw [noL_ints]; rfl
theorem noL_rows : ∀ R : Rws, noLs (rowsD R) = true
  | [] => rfl
  | r :: R => by
    show (noL (rowD r) && noLs (rowsD R)) = true
    rw [noL_row, noL_rows R]; rfl
theorem posO_of {m : Nat} {o : Od} (h : OdF m o) : posO o := by
  cases o with
  | wait s n => exact h.2.1
  | count s t n => exact h.2.2.1
  | pass n => exact h.1
  | _ => trivial
/-- a list of rows of one, known but for one -/
structure OneR (K : PySem.W.Frag) (d : Dd) (H0 : Hp) (r : Addr) (A G : Hp) (R : Rws) : Prop where
  s : Same H0 A
  n : H0 r = none
  dr : D2 K d noF A G
  rows : At A (.ref r) (.list (rowsD R))
section
variable {P : Program} {w : World} {K : PySem.W.Frag} {mg : Str → Option Value} {base : Heap} {C_GlimError C_BadRow C_BadReader C_Reader : Addr}
def p_L_two (K : PySem.W.Frag) : P2 := fun x y H Q _ => ∃ H0 d nl n1 n2, x = .ref d.a ∧ y = .ref nl ∧ D2 K d noF H0 H ∧ H0 nl = some (.lst ([n1, n2].map S)) ∧ n1 ∈ wordsN ∧ n2 ∈ wordsN ∧
  ∀ A H' t r1 r2 R1 R2, Same H0 A → D2 K d noF A H' → A t = some (.tup [.ref r1, .ref r2]) → At A (.ref r1) (.list (rowsD R1)) → At A (.ref r2) (.list (rowsD R2)) → Good R1 → Good R2 → R1.length ≤ 200 → R2.length ≤ 200 → Q (.ref t) H'
theorem ok_L_two (T : Txt K mg C_GlimError C_BadRow C_BadReader C_Reader) : OK P w K mg base CX0 6 "_law_two" ["_law_draw_here", "_law_names_here"] (sp2  (p_L_two K)) := by
  refine OK.mk (k := 5) T.d_L_two sc_L_two len2 fun f cdv A outer s H vs Q E hr h => ?_
  obtain ⟨x, y, rfl, h⟩ := h
  refine ⟨_, (pss_cons (ps_set (i := 2) sc_L_two.nd rfl (Or.inl rfl) (pe_f (ok_L_reader (K := K) T) (hr.mono (by decide)) pass0 (pa_cons (pv 0) (pa_cons pe_int (pa_cons (pv 1) pa_nil))))) (pss_cons (ps_set (i := 3) sc_L_two.nd rfl (Or.inl rfl) (pe_f (ok_L_pick (K := K) T) (hr.mono (by decide)) pass0 (pa_cons (pv 0) (pa_cons pe_int pa_nil)))) (Evl.pss_cut (ps_if (pt_cmpR op_ltP (pv 3) pe_int (nomark _)) (pss_one (ps_set (i := 2) sc_L_two.nd rfl (Or.inl rfl) (pe_f (ok_L_rows_of (K := K) T) (hr.mono (by decide)) pass0 (pa_cons (pe_f (ok_L_lines (K := K) T) (hr.mono (by decide)) pass0 (pa_cons (pv 0) (pa_cons pe_int (pa_cons (pv 1) (pa_cons pe_int pa_nil))))) (pa_cons pe_int pa_nil))))) pss_nil) (Evl.pss_cut (ps_if (pt_not (ptTruth K (pv 2) (fun _ => rfl))) (pss_one (ps_set (i := 2) sc_L_two.nd rfl (Or.inl rfl) (pe_f (ok_L_reader (K := K) T) (hr.mono (by decide)) pass0 (pa_cons (pv 0) (pa_cons pe_int (pa_cons (pv 1) pa_nil)))))) pss_nil) (Evl.pss_cut (ps_if (pt_cmpR (opEq K hr.units) (pv 3) pe_int (nomark _)) (pss_one (ps_asg (pe_tup (pa_cons (pe_ix (ixK K) (pv 1) pe_int (fun _ _ => rfl)) (pa_cons (pe_ix (ixK K) (pe_ix (ixK K) (pv 2) pe_int (fun _ _ => rfl)) pe_int (fun _ _ => rfl)) pa_nil))) (pg_sub (pv 2) pe_int set_list))) pss_nil) (pss_cons (ps_set (i := 4) sc_L_two.nd rfl (Or.inl rfl) (pe_f (ok_L_twin (K := K) T) (hr.mono (by decide)) pass0 (pa_cons (pv 0) (pa_cons (pv 2) pa_nil)))) (pss_cons (ps_set (i := 5) sc_L_two.nd rfl (Or.inl rfl) (pe_f (ok_L_pick (K := K) T) (hr.mono (by decide)) pass0 (pa_cons (pv 0) (pa_cons pe_int pa_nil)))) (Evl.pss_cut (ps_if (pt_cmpR op_ltP (pv 5) pe_int (nomark _)) (pss_one (ps_set (i := 4) sc_L_two.nd rfl (Or.inl rfl) (pe_f (ok_L_changed (K := K) T) (hr.mono (by decide)) pass0 (pa_cons (pv 0) (pa_cons (pv 4) (pa_cons (pv 1) pa_nil)))))) pss_nil) (Evl.pss_cut (ps_if (pt_cmpR (opEq K hr.units) (pv 5) pe_int (nomark _)) (pss_one (ps_set (i := 4) sc_L_two.nd rfl (Or.inl rfl) (pe_f (ok_L_reader (K := K) T) (hr.mono (by decide)) pass0 (pa_cons (pv 0) (pa_cons pe_int (pa_cons (pv 1) pa_nil)))))) pss_nil) (pss_cons (ps_if (pt_cmpR (opEq K hr.units) (pe_f (ok_L_pick (K := K) T) (hr.mono (by decide)) pass0 (pa_cons (pv 0) (pa_cons pe_int pa_nil))) pe_int (nomark _)) (pss_one (ps_ret (pe_tup (pa_cons (pv 4) (pa_cons (pv 2) pa_nil))))) pss_nil) (pss_one (ps_ret (pe_tup (pa_cons (pv 2) (pa_cons (pv 4) pa_nil))))))))))))))), ?_⟩
  show (_ : TS) { nx := fun _ H' => Q .non H', rt := Q } [some x, some y, none, none, none, none] H
  obtain ⟨H0, d, nl, n1, n2, rfl, rfl, dr, hn, w1, w2, q⟩ := h
  walk_at "go"
  refine ⟨H0, d, noF, nl, n1, n2, 5, rfl, rfl, rfl, dr, hn, w1, w2, by decide, by decide, fun A1 H1 r R s1 d1 nr aR gR lR => ?_⟩
  walk_at "go"
  refine pick2 d1 (by decide) fun kd H2 d2 bk => ?_
  have o1 : OneR K d H0 r A1 H2 R := ⟨s1, nr, d2, aR⟩
  clear s1 d1 d2 aR
  walk_at "go"
  refine i_cut (fun σ G => ∃ r A R, σ = [some (.ref d.a), some (.ref nl), some (.ref r), some (.int kd), none, none] ∧ OneR K d H0 r A G R ∧ (R = [] ∨ Good R) ∧ R.length ≤ 60) ?_ ?_
  · walk_at "go"
    refine i_dec (fun e => ?_) (fun e => ⟨r, A1, R, rfl, o1, .inr gR, by omega⟩)
    walk_at "go"
    refine ⟨A1, d, 7, nl, n1, n2, 2, rfl, rfl, rfl, rfl, by decide, by decide, by decide, by decide, o1.dr.to0, o1.s _ _ hn, w1, w2, fun t A2 xs os H3 s2 d3 ht al hF hl1 hl2 => ?_⟩
    have ol : OrdL H3 t os := by
      refine ⟨xs, d3.old ht, al.1, fun i o e => ?_⟩
      obtain ⟨a, e1, e2⟩ := al.2 i o e
      exact ⟨a, e1, d3.old e2⟩
    have hp : ∀ o ∈ os, posO o := fun o ho => posO_of (hF o ho)
    have hw : ∀ w, Od.name w ∈ os → w ∈ wordsN := fun w h => hF _ h
    walk_at "go"
    refine ⟨A2, t, os, 60, rfl, rfl, d3.1, ol, hl2, by decide, by decide, hp, fun w h => by have := (wordsN_ok w (hw w h)).2.1; omega, fun A3 H4 r' R' x nr' aR' ro => ?_⟩
    have d4 := Dr.ext d3 x
    have s4 := (o1.s.trans s2).trans x.aa
    walk_at "go"
    refine ⟨r', A3, R', rfl, ⟨s4, o1.s.trans s2 |>.free (d3.1.free nr'), .of0 d4, aR'⟩, ?_, ?_⟩
    · rcases ro with ⟨rfl, _⟩ | ⟨n, run, hn, h60, h1, rfl⟩
      · exact .inl rfl
      · exact .inr (rows_good hp (fun w h => wordsN_mk w (hw w h)) run hn (by omega) h1)
    · rcases ro with ⟨rfl, _⟩ | ⟨n, run, hn, h60, h1, rfl⟩
      · exact Nat.zero_le _
      · rw [List.length_map, List.length_range]; exact h60
  clear o1 gR lR
  rintro σ G ⟨r, A, R, rfl, o1, gR, lR⟩
  walk_at "go"
  refine i_cut (fun σ G => ∃ r A R, σ = [some (.ref d.a), some (.ref nl), some (.ref r), some (.int kd), none, none] ∧ OneR K d H0 r A G R ∧ Good R ∧ R.length ≤ 60) ?_ ?_
  · obtain ⟨xs, hxs, xl, al⟩ := rowsAt o1.rows
    walk_at "go"
    refine i_truL (o1.dr.old hxs) ?_
    cases xs with
    | nil =>
      rw [if_pos (show (!!([] : List V).isEmpty) = true from rfl)]
      walk_at "go"
      refine ⟨H0, d, noF, nl, n1, n2, 3, rfl, rfl, rfl, .of0 (o1.dr.to0.back dr.to0 o1.s), hn, w1, w2, by decide, by decide, fun A1 H1 r R s1 d1 nr aR gR lR => ?_⟩
      exact ⟨r, A1, R, rfl, ⟨s1, nr, d1, aR⟩, gR, by omega⟩
    | cons x ys =>
      rw [if_neg (by simp)]
      walk_at "go"
      refine ⟨r, A, R, rfl, o1, ?_, lR⟩
      rcases gR with rfl | gR
      · cases xl
      · exact gR
  clear o1 gR lR
  rintro σ G ⟨r, A, R, rfl, o1, gR, lR⟩
  walk_at "go"
  refine i_cut (fun σ G => ∃ r A R, σ = [some (.ref d.a), some (.ref nl), some (.ref r), some (.int kd), none, none] ∧ OneR K d H0 r A G R ∧ Good R ∧ R.length ≤ 60) ?_ ?_
  · walk_at "go"
    refine i_dec (fun e => ?_) (fun e => ⟨r, A, R, rfl, o1, gR, lR⟩)
    obtain ⟨xs, hxs, xl, al⟩ := rowsAt o1.rows
    have one := gR.one
    have hv : xs[0]? = some xs[0] := List.getElem?_eq_getElem (by omega)
    obtain ⟨r0, hr0, rm, a, b, ev, ha0, hb0⟩ := rowsGet al hv
    have hnA := o1.dr.old (o1.s _ _ hn)
    have ok := gR.row r0 rm
    walk_at "go"
    refine i_ix_lst (.inl (.inl (o1.dr.old hxs))) (atI_nat hv) ?_
    rw [ev]
    have ha := o1.dr.old ha0
    walk_at "go"
    refine i_new (by show 2 ≤ 100000; omega) fun l2 nl2 => ?_
    walk_at "go"
    have d2 := o1.dr.new (o := .tup [S n1, .ref b]) nl2
    have nA := o1.dr.free nl2
    have rl2 : r ≠ l2 := ne_of_none hxs nA
    have hrA : upd A l2 (.tup [S n1, .ref b]) r = some (.lst xs) := (upd_ne rl2).trans hxs
    refine i_setL 0 (d2.old hrA) (Evl.ixN_nat (j := 0) (by omega)) rfl ?_
    have sA := same_upd (o := HO.tup [S n1, .ref b]) nA
    have row : At (upd A l2 (.tup [S n1, .ref b])) (.ref l2) (rowD (n1, r0.2)) := by
      refine At.mkTup upd_same (.cons (.str _ ?_) (.one (At.mkTup (sA _ _ hb0) (intsAt _) (by rw [List.length_map, ok.2.1]; decide)))) (by show 2 ≤ 10000; decide)
      have := (wordsN_ok n1 w1).2.1
      omega
    have al2 := al.same sA
    have s3 := o1.s.trans sA
    generalize upd A l2 (.tup [S n1, .ref b]) = A2 at *
    generalize upd G l2 (.tup [S n1, .ref b]) = G2 at *
    have d3 : D2 K d noF (upd (wo A2 r) r (.lst xs)) G2 := by rw [wo_upd hrA]; exact d2
    have c3 : Cel K d noF (wo A2 r) := cel_up dr.cel (same_wo s3 o1.n) d3
    have d4 := d3.put (o' := .lst (xs.set 0 (.ref l2))) c3 wo_same
    have sm : SmT A2 (upd (wo A2 r) r (.lst (xs.set 0 (.ref l2)))) := fun b' ys e => by
      have ne : b' ≠ r := fun z => by rw [z, hrA] at e; cases e
      rw [upd_ne ne, wo_ne ne]; exact e
    have alN := atAll_set (al2.keep sm (noL_rows R)) (row.keep sm (noL_row _)) 0
    have es : (rowsD R).set 0 (rowD (n1, r0.2)) = rowsD (R.set 0 (n1, r0.2)) := map_set rowD R 0 _
    rw [es] at alN
    refine ⟨r, _, R.set 0 (n1, r0.2), rfl, ⟨?_, o1.n, d4, At.mkLst upd_same alN (by unfold rowsD; rw [List.length_map, List.length_set]; omega)⟩, good_of (m := R.length) (fun r' hr' => ?_) (by rw [List.length_set]) one (by omega), by rw [List.length_set]; exact lR⟩
    · exact (same_wo s3 o1.n).trans (same_upd wo_same)
    · rcases List.mem_or_eq_of_mem_set hr' with h | rfl
      · exact gR.row r' h
      · exact ⟨wordsN_mk n1 w1, ok.2.1, ok.2.2⟩
  clear o1 gR lR
  rintro σ G ⟨r, A, R, rfl, o1, gR, lR⟩
  walk_at "go"
  refine ⟨A, d, noF, r, R, rfl, rfl, o1.dr, o1.rows, gR, by omega, fun A2 G2 r2 R2 s2 d2 aR2 gR2 lR2 => ?_⟩
  have one := gR.one
  walk_at "go"
  refine pick2 d2 (by decide) fun ch G3 d3 b3 => ?_
  have aR := o1.rows.same s2
  have sA := o1.s.trans s2
  have lR2 : R2.length ≤ 120 := by omega
  clear o1 s2 d2
  walk_at "go"
  refine i_cut (fun σ G => ∃ r2 A R2, σ = [some (.ref d.a), some (.ref nl), some (.ref r), some (.int kd), some (.ref r2), some (.int ch)] ∧ Same H0 A ∧ D2 K d noF A G ∧ At A (.ref r) (.list (rowsD R)) ∧ At A (.ref r2) (.list (rowsD R2)) ∧ Good R2 ∧ R2.length ≤ 120) ?_ ?_
  · walk_at "go"
    refine i_dec (fun e => ?_) (fun e => ⟨r2, A2, R2, rfl, sA, d3, aR, aR2, gR2, lR2⟩)
    walk_at "go"
    refine ⟨A2, d, noF, r2, nl, R2, n1, n2, rfl, rfl, rfl, d3, aR2, sA _ _ hn, w1, w2, gR2, by omega, fun A3 G4 r3 R3 s3 d4 aR3 gR3 lR3 => ?_⟩
    exact ⟨r3, A3, R3, rfl, sA.trans s3, d4, aR.same s3, aR3, gR3, by omega⟩
  clear sA d3 aR aR2 gR2 lR2
  rintro σ G ⟨r2, A, R2, rfl, sA, d3, aR, aR2, gR2, lR2⟩
  walk_at "go"
  refine i_cut (fun σ G => ∃ r2 A R2, σ = [some (.ref d.a), some (.ref nl), some (.ref r), some (.int kd), some (.ref r2), some (.int ch)] ∧ Same H0 A ∧ D2 K d noF A G ∧ At A (.ref r) (.list (rowsD R)) ∧ At A (.ref r2) (.list (rowsD R2)) ∧ Good R2 ∧ R2.length ≤ 120) ?_ ?_
  · walk_at "go"
    refine i_dec (fun e => ?_) (fun e => ⟨r2, A, R2, rfl, sA, d3, aR, aR2, gR2, lR2⟩)
    walk_at "go"
    refine ⟨A, d, noF, nl, n1, n2, 5, rfl, rfl, rfl, d3, sA _ _ hn, w1, w2, by decide, by decide, fun A3 G4 r3 R3 s3 d4 _ aR3 gR3 lR3 => ?_⟩
    exact ⟨r3, A3, R3, rfl, sA.trans s3, d4, aR.same s3, aR3, gR3, by omega⟩
  clear sA d3 aR aR2 gR2 lR2
  rintro σ G ⟨r2, A, R2, rfl, sA, d3, aR, aR2, gR2, lR2⟩
  walk_at "go"
  refine pick2 d3 (by decide) fun ch2 G3 d4 b4 => ?_
  walk_at "go"
  refine i_dec (fun e => ?_) (fun e => ?_)
  · walk_at "go"
    refine i_new (by show 2 ≤ 100000; omega) fun t nt => ?_
    have st := same_upd (o := HO.tup [.ref r2, .ref r]) (d4.free nt)
    exact q _ _ t r2 r R2 R (sA.trans st) (d4.new nt) upd_same (aR2.same st) (aR.same st) gR2 gR (by omega) (by omega)
  · walk_at "go"
    refine i_new (by show 2 ≤ 100000; omega) fun t nt => ?_
    have st := same_upd (o := HO.tup [.ref r, .ref r2]) (d4.free nt)
    exact q _ _ t r r2 R R2 (sA.trans st) (d4.new nt) upd_same (aR.same st) (aR2.same st) gR gR2 (by omega) (by omega)
end
end K47
namespace K47
open PySem PySem.Spec PyProof.Rows L2 Fg
local macro_rules | `(tactic| walk_at "sq") => `(tactic| first
  | assumption
  | exact .inl (.inl (by assumption))
  | exact .inl (.inl upd_same))
local macro_rules | `(tactic| walk_at "st") => `(tactic| first
  | assumption
  | exact .inl (.inl (by assumption))
  | exact .inl (.inl upd_same))
local macro_rules | `(tactic| walk_at "o") => `(tactic| first
  | omega
  | assumption
  | (simp only [List.length_append, List.length_take, List.length_drop, List.length_cons, List.length_nil, List.length_singleton, List.length_map, List.length_range, Int.toNat_natCast] ; omega))
local macro_rules | `(tactic| walk_at "s") => `(tactic| first
  | (with_reducible refine i_seq ?_)
  | (with_reducible refine i_asg ?_)
  | ((with_reducible refine' i_var ?h1 ?_); (case h1 => rfl))
  | (with_reducible refine i_c ?_)
  | ((with_reducible refine' i_gname' ?h1 ?_); (case h1 => (simp only [List.set_cons_zero, List.set_cons_succ]; rfl)))
  | (with_reducible refine i_op ?_)
  | (with_reducible refine i_ifS ?_)
  | (with_reducible refine i_for ?_)
  | (with_reducible refine i_test ?_)
  | (with_reducible refine i_B ?_)
  | (with_reducible refine i_exbl ?_)
  | (with_reducible refine i_exint ?_)
  | (with_reducible refine i_cb ?_)
  | (with_reducible refine i_nil ?_)
  | (with_reducible refine i_cons ?_)
  | (with_reducible refine i_ret ?_)
  | (with_reducible refine i_sl ?_)
  | (with_reducible refine i_nopart ?_)
  | (with_reducible refine i_part ?_)
  | (with_reducible refine i_add_int ?_)
  | (with_reducible refine i_sub ?_)
  | (with_reducible refine i_lt ?_)
  | ((with_reducible refine' i_mod ?h1 ?_); (case h1 => walk_at "o"))
  | ((with_reducible refine' i_fdiv ?h1 ?_); (case h1 => (refine cdiv_small ?_ ?_ <;> walk_at "o")))
  | ((with_reducible refine' i_sl_to ?h1 ?h2 ?_); (case h1 => walk_at "o"); (case h2 => walk_at "o"))
  | ((with_reducible refine' i_sl_from ?h1 ?h2 ?_); (case h1 => walk_at "o"); (case h2 => walk_at "o"))
  | ((with_reducible refine' i_add_str ?h1 ?_); (case h1 => walk_at "o"))
  | ((with_reducible refine' i_mul_int ?h1 ?_); (case h1 => first | (refine mul_small ?_ ?_ <;> walk_at "o") | (refine mul_smallR ?_ ?_ <;> walk_at "o")))
  | (with_reducible refine i_le ?_)
  | (with_reducible refine i_gt ?_)
  | (with_reducible refine i_ge ?_)
  | (with_reducible refine i_eq_int ?_)
  | (with_reducible refine i_eq_str ?_)
  | (with_reducible refine i_ne_int ?_)
  | (with_reducible refine i_ne_str ?_)
  | (with_reducible refine i_eq_bl ?_)
  | (with_reducible refine i_ne_bl ?_)
  | (with_reducible refine i_in_sg ?_)
  | (with_reducible refine i_notIn_sg ?_)
  | (with_reducible refine i_call ?_)
  | (with_reducible refine i_callS ?_)
  | (with_reducible refine i_sp1 ?_)
  | (with_reducible refine i_sp2 ?_)
  | (with_reducible refine i_sp3 ?_)
  | (with_reducible refine i_sp4 ?_)
  | (with_reducible refine i_sp1' ?_)
  | (with_reducible refine i_sp2' ?_)
  | (with_reducible refine i_sp3' ?_)
  | ((with_reducible refine' i_ix_lst ?h1 ?h2 ?_); (case h1 => walk_at "sq"); (case h2 => first | exact atI_nat rfl | rfl))
  | ((with_reducible refine' i_ix_tup ?h1 ?h2 ?_); (case h1 => walk_at "st"); (case h2 => first | exact atI_nat rfl | rfl))
  | (with_reducible refine i_gsub ?_)
  | (with_reducible refine i_par ?_)
  | (with_reducible refine i_lstRg1 ?_)
  | (with_reducible refine i_app ?_)
  | (with_reducible refine i_par2 ?_)
  | ((with_reducible refine' i_aug ?h1 ?_); (case h1 => rfl))
  | (with_reducible refine i_ipI ?_)
  | ((with_reducible refine' i_gtup2 ?h1 ?_); (case h1 => walk_at "st"))
  | (with_reducible refine i_int_bl ?_)
  | (with_reducible refine i_raise ?_)
  | (with_reducible refine i_mkE ?_)
  | (with_reducible refine i_ex1 ?_)
  | (with_reducible refine i_and ?_)
  | (with_reducible refine i_or ?_)
  | (with_reducible refine i_not ?_)
  | (with_reducible refine i_tt ?_)
  | (with_reducible refine i_ff ?_)
  | (with_reducible refine i_nott ?_)
  | (with_reducible refine i_notf ?_)
  | (with_reducible refine i_andV ?_)
  | (with_reducible refine i_orV ?_)
  | (with_reducible refine i_notV ?_)
  | (with_reducible refine i_ifE ?_)
  | (with_reducible refine i_tup ?_)
  | (with_reducible refine i_lst ?_)
  | (with_reducible refine i_un ?_)
  | (with_reducible refine i_neg ?_)
  | (with_reducible refine i_chain ?_)
  | (with_reducible refine i_next ?_)
  | (with_reducible refine i_retN ?_)
  | (with_reducible refine i_drop ?_)
  | (with_reducible refine i_int_int ?_)
  | (with_reducible refine i_abs ?_)
  | (with_reducible refine i_m1c ?_)
  | (with_reducible refine i_is_non ?_)
  | (with_reducible refine i_is_int ?_)
  | (with_reducible refine i_is_bl ?_)
  | (with_reducible refine i_isn_bl ?_)
  | (with_reducible refine i_is_str ?_)
  | (with_reducible refine i_is_ref ?_)
  | (with_reducible refine i_isn_non ?_)
  | (with_reducible refine i_isn_int ?_)
  | (with_reducible refine i_isn_str ?_)
  | (with_reducible refine i_isn_ref ?_)
  | (with_reducible refine i_len_str ?h1 ?_; (case h1 => walk_at "o"))
  | (with_reducible refine i_callD ?_)
  | (with_reducible refine i_spD2 ?_)
  | (with_reducible refine i_spM1 ?_)
  | (with_reducible refine i_spM2 ?_)
  | (with_reducible refine i_spM3 ?_)
  | (with_reducible refine i_spM4 ?_)
  | (with_reducible refine i_spM3d ?_)
  | (with_reducible refine i_tfld ?_)
  | (with_reducible refine i_sfld ?_)
  | (with_reducible refine i_meth ?_)
  | (with_reducible refine i_make ?_)
  | (with_reducible refine i_spl ?_)
  | (with_reducible refine i_mkE2 ?_)
  | (with_reducible refine i_ex2 ?_)
  | (with_reducible refine i_dget ?_)
  | (with_reducible refine i_tru ?_)
  | (with_reducible refine i_dput ?_)
  | (with_reducible refine i_dnotin ?_)
  | (with_reducible refine i_din ?_)
  | (with_reducible refine i_rev ?_)
  | (with_reducible refine i_isi_int_int ?_) | (with_reducible refine i_isi_int_bool ?_) | (with_reducible refine i_isi_int_str ?_) | (with_reducible refine i_isi_int_tuple ?_) | (with_reducible refine i_isi_int_list ?_)
  | (with_reducible refine i_isi_bl_int ?_) | (with_reducible refine i_isi_bl_bool ?_) | (with_reducible refine i_isi_bl_str ?_) | (with_reducible refine i_isi_bl_tuple ?_) | (with_reducible refine i_isi_bl_list ?_)
  | (with_reducible refine i_isi_str_int ?_) | (with_reducible refine i_isi_str_bool ?_) | (with_reducible refine i_isi_str_str ?_) | (with_reducible refine i_isi_str_tuple ?_) | (with_reducible refine i_isi_str_list ?_)
  | (with_reducible refine i_isi_non_int ?_) | (with_reducible refine i_isi_non_bool ?_) | (with_reducible refine i_isi_non_str ?_) | (with_reducible refine i_isi_non_tuple ?_) | (with_reducible refine i_isi_non_list ?_))
local macro_rules | `(tactic| walk_at "go") => `(tactic| (repeat' (walk_at "s")))
local macro_rules | `(tactic| walk_at "n") => `(tactic| simp only [wipe, List.map_cons, List.map_nil, List.set_cons_zero, List.set_cons_succ])
abbrev Zs := List ((Nat × Nat) × List Nat)
def nxP (R1 R2 : Rws) (p : Nat × Nat) (k : Nat) : Nat × Nat := (nx R1 p.1 k, nx R2 p.2 k)
def sg1 (k : Nat) : List Nat := [SG.getD k 0]
/-- both have no word there -/
def mute (R1 R2 : Rws) (a : Nat × Nat) : Bool := decide (wd R1 a.1 = []) && decide (wd R2 a.2 = [])
def inZ (zs : Zs) (a : Nat × Nat) : Bool := zs.any fun z => decide (z.1 = a)
def stepZ (R1 R2 : Rws) (p : Nat × Nat) (l : List Nat) (zs : Zs) (k : Nat) : Zs := if (mute R1 R2 (nxP R1 R2 p k) && !inZ zs (nxP R1 R2 p k)) = true then zs ++ [(nxP R1 R2 p k, l ++ sg1 k)] else zs
def stepB (R1 R2 : Rws) (p : Nat × Nat) (l : List Nat) (br : Option (List Nat)) (k : Nat) : Option (List Nat) :=
  match br with
  | some b => some b
  | none => if wd R1 (nxP R1 R2 p k).1 = wd R2 (nxP R1 R2 p k).2 then none else some (l ++ sg1 k)
def atZ (zs : Zs) (i : Nat) : (Nat × Nat) × List Nat := zs.getD i ((0, 0), [])
def Cst (R1 R2 : Rws) : Nat → Zs × Option (List Nat)
  | 0 => ([((0, 0), [])], none)
  | i + 1 => ((List.range 4).foldl (stepZ R1 R2 (atZ (Cst R1 R2 i).1 i).1 (atZ (Cst R1 R2 i).1 i).2) (Cst R1 R2 i).1, (List.range 4).foldl (stepB R1 R2 (atZ (Cst R1 R2 i).1 i).1 (atZ (Cst R1 R2 i).1 i).2) (Cst R1 R2 i).2)
def Goes (R1 R2 : Rws) (most i : Nat) : Prop := i < (Cst R1 R2 i).1.length ∧ (Cst R1 R2 i).1.length ≤ most
/-- what is told of two readers -/
def CmpOf (R1 R2 : Rws) (most : Nat) (ps : List (Nat × Nat)) (br : Option (List Nat)) : Prop :=
  (wd R1 0 ≠ wd R2 0 ∧ ps = [] ∧ br = some []) ∨ (wd R1 0 = wd R2 0 ∧ wd R1 0 ≠ [] ∧ ps = [] ∧ br = none) ∨
  (wd R1 0 = [] ∧ wd R2 0 = [] ∧ ∃ i, (∀ j < i, Goes R1 R2 most j) ∧ ¬ Goes R1 R2 most i ∧ ps = (Cst R1 R2 i).1.map (·.1) ∧ br = (Cst R1 R2 i).2)
def lookK (zs : Zs) : List Key → Option V := fun k => (zs.find? fun z => decide (key2 z.1 = k)).map fun z => S z.2
def oS : Option (List Nat) → V
  | none => .non
  | some l => S l
def pairD (p : Nat × Nat) : PyData := .tuple [.int (p.1 : Int), .int (p.2 : Int)]
/-- the pairs are states; each once; looks are as long as their places at most -/
structure ZOK (R1 R2 : Rws) (zs : Zs) : Prop where
  lt : ∀ z ∈ zs, z.1.1 < R1.length ∧ z.1.2 < R2.length
  nd : (zs.map (·.1)).Nodup
  len : ∀ (i : Nat) z, zs[i]? = some z → z.2.length ≤ i
theorem inZ_mem {zs : Zs} {a : Nat × Nat} : inZ zs a = true ↔ a ∈ zs.map (·.1) := by
  unfold inZ
  rw [List.any_eq_true, List.mem_map]
  constructor
  · rintro ⟨z, h, e⟩; exact ⟨z, h, of_decide_eq_true e⟩
  · rintro ⟨z, h, e⟩; exact ⟨z, h, decide_eq_true e⟩
theorem lookK_is (zs : Zs) (a : Nat × Nat) : (lookK zs (key2 a)).isSome = inZ zs a := by
  unfold lookK inZ
  rw [Option.isSome_map, Bool.eq_iff_iff, List.find?_isSome, List.any_eq_true]
  constructor
  · rintro ⟨z, h, e⟩; exact ⟨z, h, decide_eq_true (key2_inj (of_decide_eq_true e))⟩
  · rintro ⟨z, h, e⟩; exact ⟨z, h, decide_eq_true (congrArg key2 (of_decide_eq_true e))⟩
theorem lookK_at {zs : Zs} (nd : (zs.map (·.1)).Nodup) {i : Nat} {z : (Nat × Nat) × List Nat} (h : zs[i]? = some z) : lookK zs (key2 z.1) = some (S z.2) := by
  induction zs generalizing i with
  | nil => simp at h
  | cons y r ih =>
    rw [List.map_cons, List.nodup_cons] at nd
    unfold lookK
    rw [List.find?_cons]
    match i, h with
    | 0, h =>
      cases h
      rw [decide_eq_true rfl]; rfl
    | i + 1, h =>
      have m : z.1 ∈ r.map (·.1) := List.mem_map_of_mem (List.mem_of_getElem? h)
      have ne : ¬ key2 y.1 = key2 z.1 := fun e => nd.1 (by rw [key2_inj e]; exact m)
      rw [decide_eq_false ne]
      exact ih nd.2 h
theorem lookK_put {zs : Zs} {a : Nat × Nat} {l : List Nat} (h : inZ zs a = false) : setKd (lookK zs) (key2 a) (S l) = lookK (zs ++ [(a, l)]) := by
  funext k
  unfold setKd lookK
  rw [List.find?_append]
  by_cases e : k = key2 a
  · subst e
    have : zs.find? (fun z => decide (key2 z.1 = key2 a)) = none := by
      have := lookK_is zs a
      rw [h] at this
      unfold lookK at this
      rw [Option.isSome_map] at this
      cases z : zs.find? (fun z => decide (key2 z.1 = key2 a)) with
      | none => rfl
      | some _ => rw [z] at this; cases this
    rw [if_pos rfl, this]
    simp
  · rw [if_neg e]
    have : ([(a, l)] : Zs).find? (fun z => decide (key2 z.1 = k)) = none := by
      rw [List.find?_cons, decide_eq_false (fun z => e z.symm)]; rfl
    rw [this]
    simp
theorem lookK_one (a : Nat × Nat) (l : List Nat) : setKd (fun _ => none) (key2 a) (S l) = lookK [(a, l)] := by
  have := lookK_put (zs := []) (a := a) (l := l) rfl
  exact this
theorem stepZ_len (R1 R2 : Rws) (p : Nat × Nat) (l : List Nat) (zs : Zs) (k : Nat) : zs.length ≤ (stepZ R1 R2 p l zs k).length ∧ (stepZ R1 R2 p l zs k).length ≤ zs.length + 1 := by
  unfold stepZ
  split
  · rw [List.length_append, List.length_singleton]; omega
  · omega
theorem stepZ_get {R1 R2 : Rws} {p : Nat × Nat} {l : List Nat} {zs : Zs} {k i : Nat} (h : i < zs.length) : (stepZ R1 R2 p l zs k)[i]? = zs[i]? := by
  unfold stepZ
  split
  · exact List.getElem?_append_left h
  · rfl
theorem stepZ_ok {R1 R2 : Rws} (g1 : Good R1) (g2 : Good R2) {p : Nat × Nat} {l : List Nat} {zs : Zs} {k : Nat} (h : ZOK R1 R2 zs) (hp : p.1 < R1.length ∧ p.2 < R2.length) (hk : k < 4) (hl : l.length < zs.length) : ZOK R1 R2 (stepZ R1 R2 p l zs k) := by
  unfold stepZ
  split
  · next e =>
    rw [Bool.and_eq_true, Bool.not_eq_true'] at e
    refine ⟨fun z hz => ?_, ?_, fun i z hz => ?_⟩
    · rcases List.mem_append.mp hz with hz | hz
      · exact h.lt z hz
      · rw [List.mem_singleton.mp hz]
        exact ⟨(g1.nx hp.1 hk).2, (g2.nx hp.2 hk).2⟩
    · rw [List.map_append, List.nodup_append]
      refine ⟨h.nd, by simp, fun a ha b hb => ?_⟩
      rw [List.mem_singleton.mp hb]
      rintro rfl
      have := inZ_mem.mpr ha
      rw [e.2] at this; cases this
    · rcases Nat.lt_or_ge i zs.length with hi | hi
      · rw [List.getElem?_append_left hi] at hz; exact h.len i z hz
      · have hlt := (List.getElem?_eq_some_iff.mp hz).1
        rw [List.length_append, List.length_singleton] at hlt
        obtain rfl : i = zs.length := by omega
        rw [List.getElem?_append_right (Nat.le_refl _), Nat.sub_self] at hz
        cases hz
        rw [List.length_append]
        exact hl
  · exact h
theorem foldZ_len (R1 R2 : Rws) (p : Nat × Nat) (l : List Nat) : ∀ (ks : List Nat) (zs : Zs), zs.length ≤ (ks.foldl (stepZ R1 R2 p l) zs).length ∧ (ks.foldl (stepZ R1 R2 p l) zs).length ≤ zs.length + ks.length
  | [], zs => ⟨Nat.le_refl _, Nat.le_refl _⟩
  | k :: r, zs => by
    have h1 := stepZ_len R1 R2 p l zs k
    have h2 := foldZ_len R1 R2 p l r (stepZ R1 R2 p l zs k)
    show _ ≤ (r.foldl (stepZ R1 R2 p l) (stepZ R1 R2 p l zs k)).length ∧ (r.foldl (stepZ R1 R2 p l) (stepZ R1 R2 p l zs k)).length ≤ _
    rw [List.length_cons]
    omega
theorem pairD_at {H : Hp} {v : V} {p : Nat × Nat} (h : At H v (pairD p)) : ∃ b, v = .ref b ∧ H b = some (.tup [.int (p.1 : Int), .int (p.2 : Int)]) := by
  obtain ⟨b, ys, rfl, hb, _, al⟩ := At.tupled (ds := [.int (p.1 : Int), .int (p.2 : Int)]) h
  cases al with
  | cons h1 h2 =>
  cases h2 with
  | cons h2 h3 =>
  cases h3
  rw [h1.intd, h2.intd] at hb
  exact ⟨b, rfl, hb⟩
/-- what stands while the pairs are gone through -/
structure CS (A H : Hp) (pp ld : Addr) (zs : Zs) (A1 G : Hp) (ths : List V) : Prop where
  ex : Ext A H A1 G
  f1 : H pp = none
  f2 : H ld = none
  n1 : A1 pp = none
  n2 : A1 ld = none
  d12 : pp ≠ ld
  th : G pp = some (.lst ths)
  ta : AtAll A1 ths (zs.map fun z => pairD z.1)
  kd : KD zs.length G ld (lookK zs)
section
variable {A H A1 G A2 G2 : Hp} {pp ld : Addr} {zs : Zs} {ths : List V}
theorem CS.more (h : CS A H pp ld zs A1 G ths) (x : Ext A1 G A2 G2) : CS A H pp ld zs A2 G2 ths := by
  obtain ⟨o, ko⟩ := h.kd.some
  exact ⟨h.ex.trans x, h.f1, h.f2, x.free h.n1 (by rw [h.th]; simp), x.free h.n2 (by rw [ko]; simp), h.d12, x.gg _ _ h.th, h.ta.same x.aa, h.kd.mono x.gg⟩
theorem CS.len (h : CS A H pp ld zs A1 G ths) : ths.length = zs.length := by rw [h.ta.len, List.length_map]
theorem CS.add (h : CS A H pp ld zs A1 G ths) {b : Addr} {a : Nat × Nat} {l : List Nat} {o : HO} (e : A1 b = some (.tup [.int (a.1 : Int), .int (a.2 : Int)])) (k : KD (zs ++ [(a, l)]).length (upd G ld o) ld (lookK (zs ++ [(a, l)]))) :
    CS A H pp ld (zs ++ [(a, l)]) A1 (upd (upd G ld o) pp (.lst (ths ++ [.ref b]))) (ths ++ [.ref b]) := by
  refine ⟨(h.ex.put h.f2 h.n2).put h.f1 h.n1, h.f1, h.f2, h.n1, h.n2, h.d12, upd_same, ?_, k.at (upd_ne h.d12.symm)⟩
  rw [List.map_append]
  exact h.ta.app (.one (At.mkTup e (.cons (.int _) (.one (.int _))) (by show 2 ≤ 10000; decide)))
end
end K47
namespace K47
open PySem PySem.Spec PyProof.Rows L2 Fg
local macro_rules | `(tactic| walk_at "sq") => `(tactic| first
  | assumption
  | exact .inl (.inl (by assumption))
  | exact .inl (.inl upd_same))
local macro_rules | `(tactic| walk_at "st") => `(tactic| first
  | assumption
  | exact .inl (.inl (by assumption))
  | exact .inl (.inl upd_same))
local macro_rules | `(tactic| walk_at "o") => `(tactic| first
  | omega
  | assumption
  | (simp only [List.length_append, List.length_take, List.length_drop, List.length_cons, List.length_nil, List.length_singleton, List.length_map, List.length_range, Int.toNat_natCast] ; omega))
local macro_rules | `(tactic| walk_at "s") => `(tactic| first
  | (with_reducible refine i_seq ?_)
  | (with_reducible refine i_asg ?_)
  | ((with_reducible refine' i_var ?h1 ?_); (case h1 => rfl))
  | (with_reducible refine i_c ?_)
  | ((with_reducible refine' i_gname' ?h1 ?_); (case h1 => (simp only [List.set_cons_zero, List.set_cons_succ]; rfl)))
  | (with_reducible refine i_op ?_)
  | (with_reducible refine i_ifS ?_)
  | (with_reducible refine i_for ?_)
  | (with_reducible refine i_test ?_)
  | (with_reducible refine i_B ?_)
  | (with_reducible refine i_exbl ?_)
  | (with_reducible refine i_exint ?_)
  | (with_reducible refine i_cb ?_)
  | (with_reducible refine i_nil ?_)
  | (with_reducible refine i_cons ?_)
  | (with_reducible refine i_ret ?_)
  | (with_reducible refine i_sl ?_)
  | (with_reducible refine i_nopart ?_)
  | (with_reducible refine i_part ?_)
  | (with_reducible refine i_add_int ?_)
  | (with_reducible refine i_sub ?_)
  | (with_reducible refine i_lt ?_)
  | ((with_reducible refine' i_mod ?h1 ?_); (case h1 => walk_at "o"))
  | ((with_reducible refine' i_fdiv ?h1 ?_); (case h1 => (refine cdiv_small ?_ ?_ <;> walk_at "o")))
  | ((with_reducible refine' i_sl_to ?h1 ?h2 ?_); (case h1 => walk_at "o"); (case h2 => walk_at "o"))
  | ((with_reducible refine' i_sl_from ?h1 ?h2 ?_); (case h1 => walk_at "o"); (case h2 => walk_at "o"))
  | ((with_reducible refine' i_add_str ?h1 ?_); (case h1 => walk_at "o"))
  | ((with_reducible refine' i_mul_int ?h1 ?_); (case h1 => first | (refine mul_small ?_ ?_ <;> walk_at "o") | (refine mul_smallR ?_ ?_ <;> walk_at "o")))
  | (with_reducible refine i_le ?_)
  | (with_reducible refine i_gt ?_)
  | (with_reducible refine i_ge ?_)
  | (with_reducible refine i_eq_int ?_)
  | (with_reducible refine i_eq_str ?_)
  | (with_reducible refine i_ne_int ?_)
  | (with_reducible refine i_ne_str ?_)
  | (with_reducible refine i_eq_bl ?_)
  | (with_reducible refine i_ne_bl ?_)
  | (with_reducible refine i_in_sg ?_)
  | (with_reducible refine i_notIn_sg ?_)
  | (with_reducible refine i_call ?_)
  | (with_reducible refine i_callS ?_)
  | (with_reducible refine i_sp1 ?_)
  | (with_reducible refine i_sp2 ?_)
  | (with_reducible refine i_sp3 ?_)
  | (with_reducible refine i_sp4 ?_)
  | (with_reducible refine i_sp1' ?_)
  | (with_reducible refine i_sp2' ?_)
  | (with_reducible refine i_sp3' ?_)
  | ((with_reducible refine' i_ix_lst ?h1 ?h2 ?_); (case h1 => walk_at "sq"); (case h2 => first | exact atI_nat rfl | rfl))
  | ((with_reducible refine' i_ix_tup ?h1 ?h2 ?_); (case h1 => walk_at "st"); (case h2 => first | exact atI_nat rfl | rfl))
  | (with_reducible refine i_gsub ?_)
  | (with_reducible refine i_par ?_)
  | (with_reducible refine i_lstRg1 ?_)
  | (with_reducible refine i_app ?_)
  | (with_reducible refine i_par2 ?_)
  | ((with_reducible refine' i_aug ?h1 ?_); (case h1 => rfl))
  | (with_reducible refine i_ipI ?_)
  | ((with_reducible refine' i_gtup2 ?h1 ?_); (case h1 => walk_at "st"))
  | (with_reducible refine i_int_bl ?_)
  | (with_reducible refine i_raise ?_)
  | (with_reducible refine i_mkE ?_)
  | (with_reducible refine i_ex1 ?_)
  | (with_reducible refine i_and ?_)
  | (with_reducible refine i_or ?_)
  | (with_reducible refine i_not ?_)
  | (with_reducible refine i_tt ?_)
  | (with_reducible refine i_ff ?_)
  | (with_reducible refine i_nott ?_)
  | (with_reducible refine i_notf ?_)
  | (with_reducible refine i_andV ?_)
  | (with_reducible refine i_orV ?_)
  | (with_reducible refine i_notV ?_)
  | (with_reducible refine i_ifE ?_)
  | (with_reducible refine i_tup ?_)
  | (with_reducible refine i_lst ?_)
  | (with_reducible refine i_un ?_)
  | (with_reducible refine i_neg ?_)
  | (with_reducible refine i_chain ?_)
  | (with_reducible refine i_next ?_)
  | (with_reducible refine i_retN ?_)
  | (with_reducible refine i_drop ?_)
  | (with_reducible refine i_int_int ?_)
  | (with_reducible refine i_abs ?_)
  | (with_reducible refine i_m1c ?_)
  | (with_reducible refine i_is_non ?_)
  | (with_reducible refine i_is_int ?_)
  | (with_reducible refine i_is_bl ?_)
  | (with_reducible refine i_isn_bl ?_)
  | (with_reducible refine i_is_str ?_)
  | (with_reducible refine i_is_ref ?_)
  | (with_reducible refine i_isn_non ?_)
  | (with_reducible refine i_isn_int ?_)
  | (with_reducible refine i_isn_str ?_)
  | (with_reducible refine i_isn_ref ?_)
  | (with_reducible refine i_len_str ?h1 ?_; (case h1 => walk_at "o"))
  | (with_reducible refine i_callD ?_)
  | (with_reducible refine i_spD2 ?_)
  | (with_reducible refine i_spM1 ?_)
  | (with_reducible refine i_spM2 ?_)
  | (with_reducible refine i_spM3 ?_)
  | (with_reducible refine i_spM4 ?_)
  | (with_reducible refine i_spM3d ?_)
  | (with_reducible refine i_tfld ?_)
  | (with_reducible refine i_sfld ?_)
  | (with_reducible refine i_meth ?_)
  | (with_reducible refine i_make ?_)
  | (with_reducible refine i_spl ?_)
  | (with_reducible refine i_mkE2 ?_)
  | (with_reducible refine i_ex2 ?_)
  | (with_reducible refine i_dget ?_)
  | (with_reducible refine i_tru ?_)
  | (with_reducible refine i_dput ?_)
  | (with_reducible refine i_dnotin ?_)
  | (with_reducible refine i_din ?_)
  | (with_reducible refine i_rev ?_)
  | (with_reducible refine i_isi_int_int ?_) | (with_reducible refine i_isi_int_bool ?_) | (with_reducible refine i_isi_int_str ?_) | (with_reducible refine i_isi_int_tuple ?_) | (with_reducible refine i_isi_int_list ?_)
  | (with_reducible refine i_isi_bl_int ?_) | (with_reducible refine i_isi_bl_bool ?_) | (with_reducible refine i_isi_bl_str ?_) | (with_reducible refine i_isi_bl_tuple ?_) | (with_reducible refine i_isi_bl_list ?_)
  | (with_reducible refine i_isi_str_int ?_) | (with_reducible refine i_isi_str_bool ?_) | (with_reducible refine i_isi_str_str ?_) | (with_reducible refine i_isi_str_tuple ?_) | (with_reducible refine i_isi_str_list ?_)
  | (with_reducible refine i_isi_non_int ?_) | (with_reducible refine i_isi_non_bool ?_) | (with_reducible refine i_isi_non_str ?_) | (with_reducible refine i_isi_non_tuple ?_) | (with_reducible refine i_isi_non_list ?_))
local macro_rules | `(tactic| walk_at "go") => `(tactic| (repeat' (walk_at "s")))
local macro_rules | `(tactic| walk_at "n") => `(tactic| simp only [wipe, List.map_cons, List.map_nil, List.set_cons_zero, List.set_cons_succ])
/-- a list of rows, as it is read -/
def LA (H : Hp) (r : Addr) (R : Rws) : Prop := ∃ xs, H r = some (.lst xs) ∧ xs.length = R.length ∧ ∀ i < R.length, ∃ a b, xs[i]? = some (.ref a) ∧ H a = some (.tup [S (wd R i), .ref b]) ∧ H b = some (.tup ((nxs R i).map fun n : Nat => V.int (n : Int)))
theorem LA.same {H H' : Hp} {r : Addr} {R : Rws} (h : LA H r R) (s : Same H H') : LA H' r R := by
  obtain ⟨xs, e, l, k⟩ := h
  refine ⟨xs, s _ _ e, l, fun i hi => ?_⟩
  obtain ⟨a, b, h1, h2, h3⟩ := k i hi
  exact ⟨a, b, h1, s _ _ h2, s _ _ h3⟩
theorem LA.of {H : Hp} {r : Addr} {R : Rws} (h : At H (.ref r) (.list (rowsD R))) : LA H r R := by
  obtain ⟨xs, hx, xl, al⟩ := rowsAt h
  refine ⟨xs, hx, xl, fun i hi => ?_⟩
  have m := (getD_mem hi).1
  obtain ⟨v, hv, av⟩ := al.at (i := i) (d := rowD (wd R i, nxs R i)) (by unfold rowsD; rw [List.getElem?_map, m]; rfl)
  obtain ⟨a, b, rfl, h1, h2⟩ := rowD_at av
  exact ⟨a, b, hv, h1, h2⟩
section
variable {K : PySem.W.Frag} {G : Hp} {Q : VK} {r a b : Addr} {R : Rws} {i k : Nat}
theorem i_la (h : LA G r R) (hi : i < R.length) (q : ∀ a b, G a = some (.tup [S (wd R i), .ref b]) → G b = some (.tup ((nxs R i).map fun n : Nat => V.int (n : Int))) → Q (.ref a) G) : ixP K (.ref r) (.int (i : Int)) G Q := by
  obtain ⟨xs, e, l, k⟩ := h
  obtain ⟨a, b, h1, h2, h3⟩ := k i hi
  exact i_ix_lst (.inl (.inl e)) (atI_nat h1) (q a b h2 h3)
theorem i_la0 (h : LA G r R) (hi : 0 < R.length) (q : ∀ a b, G a = some (.tup [S (wd R 0), .ref b]) → G b = some (.tup ((nxs R 0).map fun n : Nat => V.int (n : Int))) → Q (.ref a) G) : ixP K (.ref r) (.int 0) G Q := i_la (i := 0) h hi q
theorem i_nx (g : Good R) (hi : i < R.length) (hk : k < 4) (hb : G b = some (.tup ((nxs R i).map fun n : Nat => V.int (n : Int)))) (q : Q (.int (nx R i k : Int)) G) : ixP K (.ref b) (.int (k : Int)) G Q :=
  i_ix_tup (.inl (.inl hb)) (atI_nat (by rw [List.getElem?_map, (g.nx hi hk).1]; rfl)) q
end
section
variable {P : Program} {w : World} {K : PySem.W.Frag} {mg : Str → Option Value} {base : Heap} {C_GlimError C_BadRow C_BadReader C_Reader : Addr}
def p_L_compared : P3 := fun x y z H Q _ => ∃ A r1 r2 R1 R2, ∃ most : Nat, x = .ref r1 ∧ y = .ref r2 ∧ z = .int (most : Int) ∧ Same A H ∧ At A (.ref r1) (.list (rowsD R1)) ∧ At A (.ref r2) (.list (rowsD R2)) ∧ Good R1 ∧ Good R2 ∧ most ≤ 5000 ∧
  ∀ A' H' t pl ps br, Ext A H A' H' → A' t = some (.tup [.ref pl, oS br]) → At A' (.ref pl) (.list (ps.map pairD)) → CmpOf R1 R2 most ps br → ps.length ≤ most + 4 → (∀ p ∈ ps, p.1 < R1.length ∧ p.2 < R2.length) → Q (.ref t) H'
theorem ok_L_compared (T : Txt K mg C_GlimError C_BadRow C_BadReader C_Reader) : OK P w K mg base CX0 1 "_law_compared" ["_law_one", "_law_two_here", "_law_most"] (sp3  p_L_compared) := by
  refine OK.mk (k := 0) T.d_L_compared sc_L_compared len3 fun f cdv A outer s H vs Q E hr h => ?_
  obtain ⟨x, y, z, rfl, h⟩ := h
  refine ⟨_, (pss_cons (ps_if (pt_cmpR (opNe K hr.units) (pe_ix (ixK K) (pe_ix (ixK K) (pv 0) pe_int (fun _ _ => rfl)) pe_int (fun _ _ => rfl)) (pe_ix (ixK K) (pe_ix (ixK K) (pv 1) pe_int (fun _ _ => rfl)) pe_int (fun _ _ => rfl)) (nomark _)) (pss_one (ps_ret (pe_tup (pa_cons (pe_lst pa_nil) (pa_cons (pe_S []) pa_nil))))) pss_nil) (pss_cons (ps_if (pt_cmpR (opNe K hr.units) (pe_ix (ixK K) (pe_ix (ixK K) (pv 0) pe_int (fun _ _ => rfl)) pe_int (fun _ _ => rfl)) (pe_S []) (nomark _)) (pss_one (ps_ret (pe_tup (pa_cons (pe_lst pa_nil) (pa_cons pe_non pa_nil))))) pss_nil) (pss_cons (ps_set (i := 3) sc_L_compared.nd rfl (Or.inl rfl) (pe_lst (pa_cons (pe_tup (pa_cons pe_int (pa_cons pe_int pa_nil))) pa_nil))) (pss_cons (ps_set (i := 4) sc_L_compared.nd rfl (Or.inl rfl) (Fg.pe_disp1T (hu_of hr) (pe_tup (pa_cons pe_int (pa_cons pe_int pa_nil))) (pe_S []))) (pss_cons (ps_set (i := 5) sc_L_compared.nd rfl (Or.inl rfl) pe_non) (pss_cons (ps_set (i := 6) sc_L_compared.nd rfl (Or.inl rfl) pe_int) (pss_cons (ps_while PassesOwn.never (pw_and (pt_cmpR op_ltP (pv 6) (pe_callB (cLen K) (by rfl) T.b_len (by decide +kernel) (pa_cons (pv 3) pa_nil)) (nomark _)) (pw_and1 (pt_cmpR op_leP (pe_callB (cLen K) (by rfl) T.b_len (by decide +kernel) (pa_cons (pv 3) pa_nil)) (pv 2) (nomark _)))).pt (pss_cons (ps_set (i := 7) sc_L_compared.nd rfl (Or.inl rfl) (pe_ix (ixK K) (pv 3) (pv 6) (fun _ _ => rfl))) (pss_cons (ps_for PassesOwn.never rfl (pi_range1 rfl T.b_range (pa_cons pe_int pa_nil)) (pg_name (i := 8) sc_L_compared.nd rfl (Or.inl rfl)) (pss_cons (ps_set (i := 9) sc_L_compared.nd rfl (Or.inl rfl) (pe_tup (pa_cons (pe_ix (ixK K) (pe_ix (ixK K) (pe_ix (ixK K) (pv 0) (pe_ix (ixK K) (pv 7) pe_int (fun _ _ => rfl)) (fun _ _ => rfl)) pe_int (fun _ _ => rfl)) (pv 8) (fun _ _ => rfl)) (pa_cons (pe_ix (ixK K) (pe_ix (ixK K) (pe_ix (ixK K) (pv 1) (pe_ix (ixK K) (pv 7) pe_int (fun _ _ => rfl)) (fun _ _ => rfl)) pe_int (fun _ _ => rfl)) (pv 8) (fun _ _ => rfl)) pa_nil)))) (pss_cons (ps_set (i := 10) sc_L_compared.nd rfl (Or.inl rfl) (pe_ix (ixK K) (pe_ix (ixK K) (pv 0) (pe_ix (ixK K) (pv 9) pe_int (fun _ _ => rfl)) (fun _ _ => rfl)) pe_int (fun _ _ => rfl))) (pss_cons (ps_set (i := 11) sc_L_compared.nd rfl (Or.inl rfl) (pe_ix (ixK K) (pe_ix (ixK K) (pv 1) (pe_ix (ixK K) (pv 9) pe_int (fun _ _ => rfl)) (fun _ _ => rfl)) pe_int (fun _ _ => rfl))) (Evl.pss_cut (ps_if (pw_and (pt_cmpR (opEq K hr.units) (pv 10) (pe_S []) (nomark _)) (pw_and (pt_cmpR (opEq K hr.units) (pv 11) (pe_S []) (nomark _)) (pw_and1 (pt_cmp (pc_dnotin (hu_of hr) (pv 9) (pv 4)))))).pt (pss_cons (ps_dput (hu_of hr) (pv 4) (pv 9) (pe_op (opAdd K) (pe_dget (hu_of hr) (pv 4) (pv 7) (fun _ _ => rfl)) (pe_ix (ixK K) (pe_S [46, 103, 114, 119]) (pv 8) (fun _ _ => rfl))) rfl) (pss_one (ps_expr (peApp K (pv 3) (pa_cons (pv 9) pa_nil))))) pss_nil) (pss_one (ps_if (pw_and (pt_cmpR (opNe K hr.units) (pv 10) (pv 11) (nomark _)) (pw_and1 (pt_cmpR op_isP (pv 5) pe_non (nomark _)))).pt (pss_one (ps_set (i := 5) sc_L_compared.nd rfl (Or.inl rfl) (pe_op (opAdd K) (pe_dget (hu_of hr) (pv 4) (pv 7) (fun _ _ => rfl)) (pe_ix (ixK K) (pe_S [46, 103, 114, 119]) (pv 8) (fun _ _ => rfl))))) pss_nil))))))) (pss_one (ps_set (i := 6) sc_L_compared.nd rfl (Or.inl rfl) (pe_op (opAdd K) (pv 6) pe_int)))))) (pss_one (ps_ret (pe_tup (pa_cons (pv 3) (pa_cons (pv 5) pa_nil)))))))))))), ?_⟩
  show (_ : TS) { nx := fun _ H' => Q .non H', rt := Q } [some x, some y, some z, none, none, none, none, none, none, none, none, none] H
  obtain ⟨A, r1, r2, R1, R2, most, rfl, rfl, rfl, sA, a1, a2, g1, g2, m5, q⟩ := h
  have l1 := LA.of a1
  have l2 := LA.of a2
  have o1 := g1.one
  have o2 := g2.one
  walk_at "go"
  refine i_la0 (l1.same sA) o1 fun a b ha hb => ?_
  walk_at "go"
  refine i_la0 (l2.same sA) o2 fun a' b' ha' hb' => ?_
  walk_at "go"
  refine i_decN (fun e1 => ?_) (fun e1 => ?_)
  · walk_at "go"
    refine i_new (by show 0 ≤ 100000; omega) fun pl npl => ?_
    walk_at "go"
    refine i_new (by show 2 ≤ 100000; omega) fun t nt => ?_
    have y := ((Ext.refl sA).new (o := .lst []) npl).new (o := .tup [.ref pl, S []]) nt
    exact q _ _ t pl [] (some []) y upd_same (At.mkLst ((upd_ne (ne_of_none upd_same nt)).trans upd_same) .nil (Nat.zero_le _)) (.inl ⟨e1, rfl, rfl⟩) (Nat.zero_le _) (fun p h => absurd h (by simp))
  walk_at "go"
  refine i_la0 (l1.same sA) o1 fun a b ha hb => ?_
  walk_at "go"
  refine i_decN (fun e2 => ?_) (fun e2 => ?_)
  · walk_at "go"
    refine i_new (by show 0 ≤ 100000; omega) fun pl npl => ?_
    walk_at "go"
    refine i_new (by show 2 ≤ 100000; omega) fun t nt => ?_
    have y := ((Ext.refl sA).new (o := .lst []) npl).new (o := .tup [.ref pl, .non]) nt
    exact q _ _ t pl [] none y upd_same (At.mkLst ((upd_ne (ne_of_none upd_same nt)).trans upd_same) .nil (Nat.zero_le _)) (.inr (.inl ⟨e1, e2, rfl, rfl⟩)) (Nat.zero_le _) (fun p h => absurd h (by simp))
  clear ha hb ha' hb'
  have w1 : wd R1 0 = [] := e2
  have w2 : wd R2 0 = [] := by rw [← e1]; exact e2
  walk_at "go"
  refine i_new (by show 2 ≤ 100000; omega) fun b0 nb0 => ?_
  walk_at "go"
  refine i_new (by show 1 ≤ 100000; omega) fun pp npp => ?_
  walk_at "go"
  refine i_disp1T fun ld nld => ?_
  walk_at "go"
  refine i_new (by show 2 ≤ 100000; omega) fun b1 nb1 => ?_
  walk_at "go"
  have d0p : b0 ≠ pp := ne_of_none upd_same npp
  have dpl : pp ≠ ld := ne_of_none upd_same nld
  have dl1 : ld ≠ b1 := ne_of_none upd_same nb1
  have dp1 : pp ≠ b1 := ne_of_none ((upd_ne dpl).trans upd_same) nb1
  refine kd_disp (k := key2 (0, 0)) ((upd_ne dl1).trans upd_same) upd_same fun o0 kd0 => ?_
  rw [lookK_one] at kd0
  have npp' : upd H b0 (.tup [.int 0, .int 0]) pp = none := npp
  have nld' : upd (upd H b0 (.tup [.int 0, .int 0])) pp (.lst [.ref b0]) ld = none := nld
  have x1 := (Ext.refl sA).new (o := .tup [.int 0, .int 0]) nb0
  have x2 := x1.hid (o := .lst [.ref b0]) npp
  have x3 := x2.hid (o := .dT []) nld
  have x4 := x3.hid (o := .tup [.int 0, .int 0]) nb1
  have f1 : H pp = none := (same_upd nb0).free npp
  have f2 : H ld = none := ((same_upd nb0).trans (same_upd npp)).free nld
  have m1 := x1.ag.free npp
  have m2 : upd A b0 (.tup [.int 0, .int 0]) ld = none := x2.ag.free nld
  have cs0 : CS A H pp ld (Cst R1 R2 0).1 (upd A b0 (.tup [.int 0, .int 0])) _ [.ref b0] :=
    ⟨x4.put (o := o0) f2 m2, f1, f2, m1, m2, dpl, (upd_ne dpl).trans ((upd_ne dp1).trans ((upd_ne dpl).trans upd_same)), .one (At.mkTup upd_same (.cons (.int 0) (.one (.int 0))) (by show 2 ≤ 10000; decide)), kd0⟩
  generalize upd (upd (upd (upd (upd H b0 (.tup [.int 0, .int 0])) pp (.lst [.ref b0])) ld (.dT [])) b1 (.tup [.int 0, .int 0])) ld o0 = G0 at *
  generalize upd A b0 (.tup [.int 0, .int 0]) = A0 at *
  clear x1 x2 x3 x4 npp' nld' nb1 nld npp m1 m2 kd0
  have z0 : ZOK R1 R2 (Cst R1 R2 0).1 := by
    refine ⟨fun z hz => ?_, by show ([(0, 0)] : List (Nat × Nat)).Nodup; simp, fun i z hz => ?_⟩
    · rw [List.mem_singleton.mp hz]; exact ⟨o1, o2⟩
    · match i, hz with
      | 0, hz => cases hz; exact Nat.le_refl _
      | i + 1, hz => exact absurd hz (by simp [Cst])
  walk_at "go"
  refine i_while (fun m σ G => ∃ i v7 v8 v9 v10 v11 A1 ths, σ = [some (.ref r1), some (.ref r2), some (.int (most : Int)), some (.ref pp), some (.ref ld), some (oS (Cst R1 R2 i).2), some (.int ((i : Nat) : Int)), v7, v8, v9, v10, v11] ∧ m + i = most + 4 ∧ (∀ j < i, Goes R1 R2 most j) ∧ i ≤ (Cst R1 R2 i).1.length ∧ (Cst R1 R2 i).1.length ≤ most + 4 ∧ ZOK R1 R2 (Cst R1 R2 i).1 ∧ CS A H pp ld (Cst R1 R2 i).1 A1 G ths)
    (most + 4) ⟨0, none, none, none, none, none, A0, _, rfl, rfl, fun j hj => absurd hj (Nat.not_lt_zero _), Nat.zero_le _, by show 1 ≤ most + 4; omega, z0, cs0⟩ ?_
  rintro m σ G ⟨i, v7, v8, v9, v10, v11, A1, ths, rfl, hm, run, hi, hT, zok, cs⟩
  have leave : ¬ Goes R1 R2 most i → ∀ t, G t = none → Q (.ref t) (upd G t (.tup [.ref pp, oS (Cst R1 R2 i).2])) := fun ng t nt => by
    have e := cs.ex.show cs.f1 sA cs.th
    have dt : pp ≠ t := ne_of_none cs.th nt
    refine q _ _ t pp ((Cst R1 R2 i).1.map (·.1)) (Cst R1 R2 i).2 (e.new nt) upd_same (At.mkLst ((upd_ne dt).trans upd_same) ?_ ?_) (.inr (.inr ⟨w1, w2, i, run, ng, rfl, rfl⟩)) (by rw [List.length_map]; exact hT) (fun p h => by
      obtain ⟨z, hz, rfl⟩ := List.mem_map.mp h
      exact zok.lt z hz)
    · rw [List.map_map]
      exact (cs.ta.same (same_upd cs.n1)).same (same_upd (e.ag.free nt))
    · rw [List.length_map, List.length_map]; omega
  walk_at "go"
  refine i_len_lst (.inl (.inl cs.th)) ?_
  walk_at "go"
  rw [cs.len]
  refine i_dec (fun e1 => ?_) (fun e1 => ?_)
  rotate_left
  · walk_at "go"
    exact i_new (by show 2 ≤ 100000; omega) (leave fun z => e1 (by have := z.1; omega))
  walk_at "go"
  refine i_len_lst (.inl (.inl cs.th)) ?_
  walk_at "go"
  rw [cs.len]
  refine i_dec (fun e2 => ?_) (fun e2 => ?_)
  rotate_left
  · walk_at "go"
    exact i_new (by show 2 ≤ 100000; omega) (leave fun z => e2 (by have := z.2; omega))
  have go : Goes R1 R2 most i := ⟨by omega, by omega⟩
  obtain ⟨m, rfl⟩ : ∃ m', m = m' + 1 := ⟨m - 1, by omega⟩
  refine i_turn ?_
  have lt : i < (Cst R1 R2 i).1.length := go.1
  have ez : (Cst R1 R2 i).1[i]? = some (atZ (Cst R1 R2 i).1 i) := by
    unfold atZ
    rw [List.getD_eq_getElem?_getD, List.getElem?_eq_getElem lt]; rfl
  have eC : Cst R1 R2 (i + 1) = ((List.range 4).foldl (stepZ R1 R2 (atZ (Cst R1 R2 i).1 i).1 (atZ (Cst R1 R2 i).1 i).2) (Cst R1 R2 i).1, (List.range 4).foldl (stepB R1 R2 (atZ (Cst R1 R2 i).1 i).1 (atZ (Cst R1 R2 i).1 i).2) (Cst R1 R2 i).2) := rfl
  have run1 : ∀ j < i + 1, Goes R1 R2 most j := fun j hj => by
    rcases Nat.lt_or_ge j i with h | h
    · exact run j h
    · obtain rfl : j = i := by omega
      exact go
  have hmost := go.2
  generalize atZ (Cst R1 R2 i).1 i = z at *
  generalize hZ : (Cst R1 R2 i).1 = Z at *
  generalize hB : (Cst R1 R2 i).2 = B at *
  obtain ⟨p, l⟩ := z
  dsimp only at eC
  have hp := zok.lt _ (List.mem_of_getElem? ez)
  dsimp only at hp
  have ll : l.length ≤ i := zok.len _ _ ez
  obtain ⟨v, hv, av⟩ := cs.ta.at (i := i) (d := pairD p) (by rw [List.getElem?_map, ez]; rfl)
  obtain ⟨bp, rfl, hbp⟩ := pairD_at av
  walk_at "go"
  refine i_ix_lst (.inl (.inl cs.th)) (atI_nat hv) ?_
  walk_at "go"
  refine f_rng1 4 (fun R k => by walk_at "go"; exact k) (by omega) (fun k σ G => ∃ v8 v9 v10 v11 A2 ths2, σ = [some (.ref r1), some (.ref r2), some (.int (most : Int)), some (.ref pp), some (.ref ld), some (oS ((List.range k).foldl (stepB R1 R2 p l) B)), some (.int (i : Int)), some (.ref bp), v8, v9, v10, v11] ∧
    ZOK R1 R2 ((List.range k).foldl (stepZ R1 R2 p l) Z) ∧ CS A H pp ld ((List.range k).foldl (stepZ R1 R2 p l) Z) A2 G ths2 ∧ Same A1 A2) ⟨v8, v9, v10, v11, A1, ths, rfl, zok, cs, Same.refl _⟩ ?_ ?_
  · rintro k σ G2 hk ⟨v8, v9, v10, v11, A2, ths2, rfl, zok, cs, s12⟩
    show (_ : TS) _ [some (.ref r1), some (.ref r2), some (.int (most : Int)), some (.ref pp), some (.ref ld), some (oS ((List.range k).foldl (stepB R1 R2 p l) B)), some (.int (i : Int)), some (.ref bp), some (.int (k : Int)), v9, v10, v11] G2
    have len4 := (foldZ_len R1 R2 p l (List.range k) Z).2
    have len1 := (foldZ_len R1 R2 p l (List.range k) Z).1
    rw [List.length_range] at len4
    have eZ : (List.range (k + 1)).foldl (stepZ R1 R2 p l) Z = stepZ R1 R2 p l ((List.range k).foldl (stepZ R1 R2 p l) Z) k := by rw [List.range_succ, List.foldl_append]; rfl
    have eB : (List.range (k + 1)).foldl (stepB R1 R2 p l) B = stepB R1 R2 p l ((List.range k).foldl (stepB R1 R2 p l) B) k := by rw [List.range_succ, List.foldl_append]; rfl
    have eget : ((List.range k).foldl (stepZ R1 R2 p l) Z)[i]? = some (p, l) := by
      have : ∀ (ks : List Nat) (zs : Zs), i < zs.length → (ks.foldl (stepZ R1 R2 p l) zs)[i]? = zs[i]? := by
        intro ks
        induction ks with
        | nil => exact fun zs h => rfl
        | cons k r ih => exact fun zs h => (ih _ (by have := (stepZ_len R1 R2 p l zs k).1; omega)).trans (stepZ_get h)
      rw [this _ _ lt]; exact ez
    rw [eZ, eB]
    generalize (List.range k).foldl (stepZ R1 R2 p l) Z = Zk at *
    generalize (List.range k).foldl (stepB R1 R2 p l) B = Bk at *
    have sG := cs.ex.gg
    have sA2 := sA.trans sG
    have b1 := (g1.nx hp.1 hk).2
    have b2 := (g2.nx hp.2 hk).2
    have hbp2 := cs.ex.ag _ _ (s12 _ _ hbp)
    have sgk : SG[k]? = some (SG.getD k 0) := by rw [List.getD_eq_getElem?_getD, List.getElem?_eq_getElem (show k < SG.length from hk)]; rfl
    walk_at "go"
    refine i_la (l1.same sA2) hp.1 fun a b ha hb => ?_
    walk_at "go"
    refine i_nx g1 hp.1 hk hb ?_
    walk_at "go"
    refine i_la (l2.same sA2) hp.2 fun a' b' ha' hb' => ?_
    walk_at "go"
    refine i_nx g2 hp.2 hk hb' ?_
    walk_at "go"
    refine i_new (by show 2 ≤ 100000; omega) fun bn nbn => ?_
    have cs2 := cs.more ((Ext.refl cs.ex.ag).new (o := .tup [.int (nx R1 p.1 k : Int), .int (nx R2 p.2 k : Int)]) nbn)
    have hbn : (upd A2 bn (.tup [.int (nx R1 p.1 k : Int), .int (nx R2 p.2 k : Int)])) bn = some (.tup [.int (nx R1 p.1 k : Int), .int (nx R2 p.2 k : Int)]) := upd_same
    have s13 : Same A1 (upd A2 bn (.tup [.int (nx R1 p.1 k : Int), .int (nx R2 p.2 k : Int)])) := s12.trans (same_upd (cs.ex.ag.free nbn))
    clear ha hb ha' hb' sG sA2 cs hbp2
    generalize upd A2 bn (.tup [.int (nx R1 p.1 k : Int), .int (nx R2 p.2 k : Int)]) = A3 at *
    generalize upd G2 bn (.tup [.int (nx R1 p.1 k : Int), .int (nx R2 p.2 k : Int)]) = G3 at *
    have sA3 := sA.trans cs2.ex.gg
    have hbn3 := cs2.ex.ag _ _ hbn
    walk_at "go"
    refine i_la (l1.same sA3) b1 fun a b ha hb => ?_
    walk_at "go"
    refine i_la (l2.same sA3) b2 fun a' b' ha' hb' => ?_
    walk_at "go"
    clear ha hb ha' hb'
    have sv : SG.getD k 0 = SG.getD k 0 := rfl
    have es : stepZ R1 R2 p l Zk k = if ((decide (wd R1 (nx R1 p.1 k) = []) && decide (wd R2 (nx R2 p.2 k) = [])) && !inZ Zk (nxP R1 R2 p k)) = true then Zk ++ [(nxP R1 R2 p k, l ++ sg1 k)] else Zk := rfl
    have sok := stepZ_ok g1 g2 (k := k) zok hp hk (l := l) (by omega)
    have hbnK : G3 bn = some (.tup ((key2 (nxP R1 R2 p k)).map kV)) := hbn3
    have hbpK : G3 bp = some (.tup ((key2 p).map kV)) := cs2.ex.ag _ _ (s13 _ _ hbp)
    have llk : l.length ≤ 10000 := by omega
    refine i_cut (fun σ G => ∃ ths3, σ = [some (.ref r1), some (.ref r2), some (.int (most : Int)), some (.ref pp), some (.ref ld), some (oS Bk), some (.int (i : Int)), some (.ref bp), some (.int (k : Int)), some (.ref bn), some (S (wd R1 (nx R1 p.1 k))), some (S (wd R2 (nx R2 p.2 k)))] ∧ CS A H pp ld (stepZ R1 R2 p l Zk k) A3 G ths3) ?_ ?_
    · walk_at "go"
      refine i_dec (fun e5 => ?_) (fun e5 => ?_)
      rotate_left
      · rw [decide_eq_false e5, Bool.false_and, Bool.false_and, if_neg (by decide)] at es
        walk_at "go"
        exact ⟨ths2, rfl, by rw [es]; exact cs2⟩
      rw [decide_eq_true e5, Bool.true_and] at es
      walk_at "go"
      refine i_dec (fun e6 => ?_) (fun e6 => ?_)
      rotate_left
      · rw [decide_eq_false e6, Bool.false_and, if_neg (by decide)] at es
        walk_at "go"
        exact ⟨ths2, rfl, by rw [es]; exact cs2⟩
      rw [decide_eq_true e6, Bool.true_and] at es
      walk_at "go"
      refine kd_askT cs2.kd hbnK ?_
      rw [lookK_is]
      cases ei : inZ Zk (nxP R1 R2 p k) with
      | true =>
        rw [ei, if_neg (by decide)] at es
        walk_at "go"
        exact ⟨ths2, rfl, by rw [es]; exact cs2⟩
      | false =>
        rw [ei, if_pos (by decide)] at es
        walk_at "go"
        refine kd_get cs2.kd hbpK (lookK_at zok.nd eget) ?_
        walk_at "go"
        refine i_ix_str (l := SG) (by decide) (by omega) (by rw [Int.toNat_natCast]; exact sgk) ?_
        walk_at "go"
        refine kd_put cs2.kd hbnK (by omega) fun o4 kd4 => ?_
        rw [show l ++ [SG.getD k 0] = l ++ sg1 k from rfl, lookK_put ei] at kd4
        have kd4 : KD (Zk ++ [(nxP R1 R2 p k, l ++ sg1 k)]).length (upd G3 ld o4) ld (lookK (Zk ++ [(nxP R1 R2 p k, l ++ sg1 k)])) := by rw [List.length_append, List.length_singleton]; exact kd4
        have th4 : upd G3 ld o4 pp = some (.lst ths2) := (upd_ne cs2.d12).trans cs2.th
        walk_at "go"
        refine i_appAt th4 ?_
        walk_at "go"
        refine i_appEnd th4 (by rw [cs2.len]; omega) ?_
        exact ⟨_, rfl, by rw [es]; exact cs2.add (a := nxP R1 R2 p k) (l := l ++ sg1 k) hbn kd4⟩
    rintro σ G4 ⟨ths3, rfl, cs3⟩
    have hbp4 : G4 bp = some (.tup ((key2 p).map kV)) := cs3.ex.ag _ _ (s13 _ _ hbp)
    have eget3 := (stepZ_get (R1 := R1) (R2 := R2) (p := p) (l := l) (k := k) (List.getElem?_eq_some_iff.mp eget).1).trans eget
    walk_at "go"
    refine i_decN (fun e7 => ?_) (fun e7 => ?_)
    rotate_left
    · have eb : stepB R1 R2 p l Bk k = Bk := by
        cases Bk with
        | some b => rfl
        | none => exact if_pos e7
      rw [eb]
      walk_at "go"
      exact ⟨_, _, _, _, A3, ths3, rfl, sok, cs3, s13⟩
    walk_at "go"
    cases Bk with
    | some b =>
      dsimp only [oS]
      walk_at "go"
      exact ⟨_, _, _, _, A3, ths3, rfl, sok, cs3, s13⟩
    | none =>
      have eb : stepB R1 R2 p l none k = some (l ++ sg1 k) := if_neg e7
      rw [eb]
      dsimp only [oS]
      walk_at "go"
      refine kd_get cs3.kd hbp4 (lookK_at sok.nd eget3) ?_
      walk_at "go"
      refine i_ix_str (l := SG) (by decide) (by omega) (by rw [Int.toNat_natCast]; exact sgk) ?_
      walk_at "go"
      exact ⟨_, _, _, _, A3, ths3, rfl, sok, cs3, s13⟩
  · rintro σ G2 ⟨v8, v9, v10, v11, A2, ths2, rfl, zok, cs, s12⟩
    have ef := (foldZ_len R1 R2 p l (List.range 4) Z)
    rw [List.length_range] at ef
    walk_at "go"
    refine ⟨m, Nat.lt_succ_self _, i + 1, _, _, _, _, _, A2, ths2, by rw [eC]; rfl, by omega, run1, by rw [eC]; dsimp only; omega, by rw [eC]; dsimp only; omega, by rw [eC]; exact zok, by rw [eC]; exact cs⟩
end
end K47
namespace K47
open PySem PySem.Spec PyProof.Rows L2 Fg
local macro_rules | `(tactic| walk_at "sq") => `(tactic| first
  | assumption
  | exact .inl (.inl (by assumption))
  | exact .inl (.inl upd_same))
local macro_rules | `(tactic| walk_at "st") => `(tactic| first
  | assumption
  | exact .inl (.inl (by assumption))
  | exact .inl (.inl upd_same))
local macro_rules | `(tactic| walk_at "o") => `(tactic| first
  | omega
  | assumption
  | (simp only [List.length_append, List.length_take, List.length_drop, List.length_cons, List.length_nil, List.length_singleton, List.length_map, List.length_range, Int.toNat_natCast] ; omega))
local macro_rules | `(tactic| walk_at "s") => `(tactic| first
  | (with_reducible refine i_seq ?_)
  | (with_reducible refine i_asg ?_)
  | ((with_reducible refine' i_var ?h1 ?_); (case h1 => rfl))
  | (with_reducible refine i_c ?_)
  | ((with_reducible refine' i_gname' ?h1 ?_); (case h1 => (simp only [List.set_cons_zero, List.set_cons_succ]; rfl)))
  | (with_reducible refine i_op ?_)
  | (with_reducible refine i_ifS ?_)
  | (with_reducible refine i_for ?_)
  | (with_reducible refine i_test ?_)
  | (with_reducible refine i_B ?_)
  | (with_reducible refine i_exbl ?_)
  | (with_reducible refine i_exint ?_)
  | (with_reducible refine i_cb ?_)
  | (with_reducible refine i_nil ?_)
  | (with_reducible refine i_cons ?_)
  | (with_reducible refine i_ret ?_)
  | (with_reducible refine i_sl ?_)
  | (with_reducible refine i_nopart ?_)
  | (with_reducible refine i_part ?_)
  | (with_reducible refine i_add_int ?_)
  | (with_reducible refine i_sub ?_)
  | (with_reducible refine i_lt ?_)
  | ((with_reducible refine' i_mod ?h1 ?_); (case h1 => walk_at "o"))
  | ((with_reducible refine' i_fdiv ?h1 ?_); (case h1 => (refine cdiv_small ?_ ?_ <;> walk_at "o")))
  | ((with_reducible refine' i_sl_to ?h1 ?h2 ?_); (case h1 => walk_at "o"); (case h2 => walk_at "o"))
  | ((with_reducible refine' i_sl_from ?h1 ?h2 ?_); (case h1 => walk_at "o"); (case h2 => walk_at "o"))
  | ((with_reducible refine' i_add_str ?h1 ?_); (case h1 => walk_at "o"))
  | ((with_reducible refine' i_mul_int ?h1 ?_); (case h1 => first | (refine mul_small ?_ ?_ <;> walk_at "o") | (refine mul_smallR ?_ ?_ <;> walk_at "o")))
  | (with_reducible refine i_le ?_)
  | (with_reducible refine i_gt ?_)
  | (with_reducible refine i_ge ?_)
  | (with_reducible refine i_eq_int ?_)
  | (with_reducible refine i_eq_str ?_)
  | (with_reducible refine i_ne_int ?_)
  | (with_reducible refine i_ne_str ?_)
  | (with_reducible refine i_eq_bl ?_)
  | (with_reducible refine i_ne_bl ?_)
  | (with_reducible refine i_in_sg ?_)
  | (with_reducible refine i_notIn_sg ?_)
  | (with_reducible refine i_call ?_)
  | (with_reducible refine i_callS ?_)
  | (with_reducible refine i_sp1 ?_)
  | (with_reducible refine i_sp2 ?_)
  | (with_reducible refine i_sp3 ?_)
  | (with_reducible refine i_sp4 ?_)
  | (with_reducible refine i_sp1' ?_)
  | (with_reducible refine i_sp2' ?_)
  | (with_reducible refine i_sp3' ?_)
  | ((with_reducible refine' i_ix_lst ?h1 ?h2 ?_); (case h1 => walk_at "sq"); (case h2 => first | exact atI_nat rfl | rfl))
  | ((with_reducible refine' i_ix_tup ?h1 ?h2 ?_); (case h1 => walk_at "st"); (case h2 => first | exact atI_nat rfl | rfl))
  | (with_reducible refine i_gsub ?_)
  | (with_reducible refine i_par ?_)
  | (with_reducible refine i_lstRg1 ?_)
  | (with_reducible refine i_app ?_)
  | (with_reducible refine i_par2 ?_)
  | ((with_reducible refine' i_aug ?h1 ?_); (case h1 => rfl))
  | (with_reducible refine i_ipI ?_)
  | ((with_reducible refine' i_gtup2 ?h1 ?_); (case h1 => walk_at "st"))
  | (with_reducible refine i_int_bl ?_)
  | (with_reducible refine i_raise ?_)
  | (with_reducible refine i_mkE ?_)
  | (with_reducible refine i_ex1 ?_)
  | (with_reducible refine i_and ?_)
  | (with_reducible refine i_or ?_)
  | (with_reducible refine i_not ?_)
  | (with_reducible refine i_tt ?_)
  | (with_reducible refine i_ff ?_)
  | (with_reducible refine i_nott ?_)
  | (with_reducible refine i_notf ?_)
  | (with_reducible refine i_andV ?_)
  | (with_reducible refine i_orV ?_)
  | (with_reducible refine i_notV ?_)
  | (with_reducible refine i_ifE ?_)
  | (with_reducible refine i_tup ?_)
  | (with_reducible refine i_lst ?_)
  | (with_reducible refine i_un ?_)
  | (with_reducible refine i_neg ?_)
  | (with_reducible refine i_chain ?_)
  | (with_reducible refine i_next ?_)
  | (with_reducible refine i_retN ?_)
  | (with_reducible refine i_drop ?_)
  | (with_reducible refine i_int_int ?_)
  | (with_reducible refine i_abs ?_)
  | (with_reducible refine i_m1c ?_)
  | (with_reducible refine i_is_non ?_)
  | (with_reducible refine i_is_int ?_)
  | (with_reducible refine i_is_bl ?_)
  | (with_reducible refine i_isn_bl ?_)
  | (with_reducible refine i_is_str ?_)
  | (with_reducible refine i_is_ref ?_)
  | (with_reducible refine i_isn_non ?_)
  | (with_reducible refine i_isn_int ?_)
  | (with_reducible refine i_isn_str ?_)
  | (with_reducible refine i_isn_ref ?_)
  | (with_reducible refine i_len_str ?h1 ?_; (case h1 => walk_at "o"))
  | (with_reducible refine i_callD ?_)
  | (with_reducible refine i_spD2 ?_)
  | (with_reducible refine i_spM1 ?_)
  | (with_reducible refine i_spM2 ?_)
  | (with_reducible refine i_spM3 ?_)
  | (with_reducible refine i_spM4 ?_)
  | (with_reducible refine i_spM3d ?_)
  | (with_reducible refine i_tfld ?_)
  | (with_reducible refine i_sfld ?_)
  | (with_reducible refine i_meth ?_)
  | (with_reducible refine i_make ?_)
  | (with_reducible refine i_spl ?_)
  | (with_reducible refine i_mkE2 ?_)
  | (with_reducible refine i_ex2 ?_)
  | (with_reducible refine i_dget ?_)
  | (with_reducible refine i_tru ?_)
  | (with_reducible refine i_dput ?_)
  | (with_reducible refine i_dnotin ?_)
  | (with_reducible refine i_din ?_)
  | (with_reducible refine i_rev ?_)
  | (with_reducible refine i_isi_int_int ?_) | (with_reducible refine i_isi_int_bool ?_) | (with_reducible refine i_isi_int_str ?_) | (with_reducible refine i_isi_int_tuple ?_) | (with_reducible refine i_isi_int_list ?_)
  | (with_reducible refine i_isi_bl_int ?_) | (with_reducible refine i_isi_bl_bool ?_) | (with_reducible refine i_isi_bl_str ?_) | (with_reducible refine i_isi_bl_tuple ?_) | (with_reducible refine i_isi_bl_list ?_)
  | (with_reducible refine i_isi_str_int ?_) | (with_reducible refine i_isi_str_bool ?_) | (with_reducible refine i_isi_str_str ?_) | (with_reducible refine i_isi_str_tuple ?_) | (with_reducible refine i_isi_str_list ?_)
  | (with_reducible refine i_isi_non_int ?_) | (with_reducible refine i_isi_non_bool ?_) | (with_reducible refine i_isi_non_str ?_) | (with_reducible refine i_isi_non_tuple ?_) | (with_reducible refine i_isi_non_list ?_))
local macro_rules | `(tactic| walk_at "go") => `(tactic| (repeat' (walk_at "s")))
local macro_rules | `(tactic| walk_at "n") => `(tactic| simp only [wipe, List.map_cons, List.map_nil, List.set_cons_zero, List.set_cons_succ])
def isI : PyData → Bool
  | .int _ => true
  | _ => false
/-- two things in a list or a tuple -/
def twoD : PyData → Option (PyData × PyData)
  | .list [x, y] => some (x, y)
  | .tuple [x, y] => some (x, y)
  | _ => none
theorem prD_two (n1 n2 : Nat) (d : PyData) : prD n1 n2 d = (match twoD d with
    | some (.int i, .int j) => if 0 ≤ i ∧ i < n1 ∧ 0 ≤ j ∧ j < n2 then some (i.toNat, j.toNat) else none
    | _ => none) := by
  have sq : ∀ ds : List PyData, prD n1 n2 (.list ds) = (match twoD (.list ds) with
      | some (.int i, .int j) => if 0 ≤ i ∧ i < n1 ∧ 0 ≤ j ∧ j < n2 then some (i.toNat, j.toNat) else none
      | _ => none) ∧ prD n1 n2 (.tuple ds) = (match twoD (.tuple ds) with
      | some (.int i, .int j) => if 0 ≤ i ∧ i < n1 ∧ 0 ≤ j ∧ j < n2 then some (i.toNat, j.toNat) else none
      | _ => none) := fun ds => by
    match ds with
    | [] => exact ⟨rfl, rfl⟩
    | [x] => cases x <;> exact ⟨rfl, rfl⟩
    | [x, y] => cases x <;> first
        | exact ⟨rfl, rfl⟩
        | (cases y <;> exact ⟨rfl, rfl⟩)
    | x :: y :: z :: r => cases x <;> first
        | exact ⟨rfl, rfl⟩
        | (cases y <;> exact ⟨rfl, rfl⟩)
  cases d with
  | list ds => exact (sq ds).1
  | tuple ds => exact (sq ds).2
  | _ => rfl
section
variable {P : Program} {w : World} {K : PySem.W.Frag} {mg : Str → Option Value} {base : Heap} {C_GlimError C_BadRow C_BadReader C_Reader : Addr}
def p_L_is_int : P1 := fun x H Q _ => ∃ d, At H x d ∧ Q (.bl (isI d)) H
theorem ok_L_is_int (T : Txt K mg C_GlimError C_BadRow C_BadReader C_Reader) : OK P w K mg base CX0 1 "_law_is_int" ["_law_thing"] (sp1  p_L_is_int) := by
  refine OK.mk (k := 0) T.d_L_is_int sc_L_is_int len1 fun f cdv A outer s H vs Q E hr h => ?_
  obtain ⟨x, rfl, h⟩ := h
  refine ⟨_, (pss_one (ps_ret (pe_and (pe_callB (cIsi K) (by rfl) T.b_isinstance (by decide +kernel) (pa_cons (pv 0) (pa_cons (pe_bltn (v := .ty "int") (by rfl) T.b_int (by decide +kernel) rfl) pa_nil))) (pe_one (pe_not (pe_callB (cIsi K) (by rfl) T.b_isinstance (by decide +kernel) (pa_cons (pv 0) (pa_cons (pe_bltn (v := .ty "bool") (by rfl) T.b_bool (by decide +kernel) rfl) pa_nil)))))))), ?_⟩
  show (_ : TS) { nx := fun _ H' => Q .non H', rt := Q } [some x] H
  obtain ⟨d, hx, q⟩ := h
  walk_at "go"
  cases d
  case int i =>
    refine i_isiInt true hx rfl ?_
    walk_at "go"
    refine i_isiBool false hx rfl ?_
    walk_at "go"
    exact q
  case bool b =>
    refine i_isiInt true hx rfl ?_
    walk_at "go"
    refine i_isiBool true hx rfl ?_
    walk_at "go"
    exact q
  all_goals
    refine i_isiInt false hx rfl ?_
    walk_at "go"
    exact q
/-- i, j stand in the thing v -/
theorem twoAt {H : Hp} {v : V} {d x y : PyData} (h : At H v d) (e : twoD d = some (x, y)) : ∃ a vx vy, v = .ref a ∧ (H a = some (.lst [vx, vy]) ∨ H a = some (.tup [vx, vy])) ∧ At H vx x ∧ At H vy y := by
  have fin : ∀ {a : Addr} {xs : List V}, AtAll H xs [x, y] → ∃ vx vy, xs = [vx, vy] ∧ At H vx x ∧ At H vy y := fun al => by
    cases al with
    | cons h1 h2 =>
    cases h2 with
    | cons h2 h3 =>
    cases h3
    exact ⟨_, _, rfl, h1, h2⟩
  cases d with
  | list ds =>
    obtain ⟨a, xs, rfl, hH, _, al⟩ := h.listed
    match ds, e with
    | [x', y'], e =>
      cases e
      obtain ⟨vx, vy, rfl, h1, h2⟩ := fin (a := a) al
      exact ⟨a, vx, vy, rfl, .inl hH, h1, h2⟩
  | tuple ds =>
    obtain ⟨a, xs, rfl, hH, _, al⟩ := h.tupled
    match ds, e with
    | [x', y'], e =>
      cases e
      obtain ⟨vx, vy, rfl, h1, h2⟩ := fin (a := a) al
      exact ⟨a, vx, vy, rfl, .inr hH, h1, h2⟩
  | _ => cases e
theorem i_ix2 {K : PySem.W.Frag} {H : Hp} {Q : VK} {a : Addr} {vx vy v : V} {k : Int} (h : H a = some (.lst [vx, vy]) ∨ H a = some (.tup [vx, vy])) (e : atI [vx, vy] k = some v) (q : Q v H) : ixP K (.ref a) (.int k) H Q := by
  rcases h with h | h
  · exact i_ix_lst (.inl (.inl h)) e q
  · exact i_ix_tup (.inl (.inl h)) e q
def p_L_is_pair : P3 := fun x y z H Q _ => ∃ r1 r2 R1 R2 d, x = .ref r1 ∧ y = .ref r2 ∧ LA H r1 R1 ∧ LA H r2 R2 ∧ At H z d ∧ ∀ H', Same H H' → Q (.bl (prD R1.length R2.length d).isSome) H'
theorem ok_L_is_pair (T : Txt K mg C_GlimError C_BadRow C_BadReader C_Reader) : OK P w K mg base CX0 2 "_law_is_pair" ["_law_one", "_law_two_here", "_law_thing"] (sp3  p_L_is_pair) := by
  refine OK.mk (k := 1) T.d_L_is_pair sc_L_is_pair len3 fun f cdv A outer s H vs Q E hr h => ?_
  obtain ⟨x, y, z, rfl, h⟩ := h
  refine ⟨_, (pss_cons (ps_if (pw_or (pt_not (pt_val (pe_callB (cIsiT K) (by rfl) T.b_isinstance (by decide +kernel) (pa_cons (pv 2) (pa_cons (pe_tup (pa_cons (pe_bltn (v := .ty "list") (by rfl) T.b_list (by decide +kernel) rfl) (pa_cons (pe_bltn (v := .ty "tuple") (by rfl) T.b_tuple (by decide +kernel) rfl) pa_nil))) pa_nil))))) (pw_or1 (pt_cmpR (opNe K hr.units) (pe_callB (cLen K) (by rfl) T.b_len (by decide +kernel) (pa_cons (pv 2) pa_nil)) pe_int (nomark _)))).pt (pss_one (ps_ret pe_bl)) pss_nil) (pss_cons (ps_if (pw_or (pt_not (pt_val (pe_f (ok_L_is_int (K := K) T) (hr.mono (by decide)) pass0 (pa_cons (pe_ix (ixK K) (pv 2) pe_int (fun _ _ => rfl)) pa_nil)))) (pw_or1 (pt_not (pt_val (pe_f (ok_L_is_int (K := K) T) (hr.mono (by decide)) pass0 (pa_cons (pe_ix (ixK K) (pv 2) pe_int (fun _ _ => rfl)) pa_nil)))))).pt (pss_one (ps_ret pe_bl)) pss_nil) (pss_one (ps_ret (pe_and (pe_chain op_leP op_ltP pe_int (pe_ix (ixK K) (pv 2) pe_int (fun _ _ => rfl)) (pe_callB (cLen K) (by rfl) T.b_len (by decide +kernel) (pa_cons (pv 0) pa_nil))) (pe_one (pe_chain op_leP op_ltP pe_int (pe_ix (ixK K) (pv 2) pe_int (fun _ _ => rfl)) (pe_callB (cLen K) (by rfl) T.b_len (by decide +kernel) (pa_cons (pv 1) pa_nil))))))))), ?_⟩
  show (_ : TS) { nx := fun _ H' => Q .non H', rt := Q } [some x, some y, some z] H
  obtain ⟨r1, r2, R1, R2, d, rfl, rfl, l1, l2, hz, q⟩ := h
  walk_at "go"
  refine i_new (by show 2 ≤ 100000; omega) fun tp ntp => ?_
  have s1 := same_upd (o := HO.tup [.ty "list", .ty "tuple"]) ntp
  have htp : (upd H tp (.tup [.ty "list", .ty "tuple"])) tp = some (.tup [.ty "list", .ty "tuple"]) := upd_same
  generalize upd H tp (.tup [.ty "list", .ty "tuple"]) = G at *
  have hz := hz.same s1
  have q := fun H' s => q H' (s1.trans s)
  walk_at "go"
  have len : ∀ {ds : List PyData} {R : VK} {G : Hp}, (d = .list ds ∨ d = .tuple ds) → At G z d → R (.int (ds.length : Int)) G → rLenP K [z] G R := fun hd hz k => by
    rcases hd with rfl | rfl
    · obtain ⟨a, xs, rfl, hH, _, al⟩ := hz.listed
      exact i_len_lst (.inl (.inl hH)) (by rw [al.len]; exact k)
    · obtain ⟨a, xs, rfl, hH, _, al⟩ := hz.tupled
      exact i_len_tup (.inl (.inl hH)) (by rw [al.len]; exact k)
  cases e : isSeqD d with
  | false =>
    have : prD R1.length R2.length d = none := by cases d <;> first
      | rfl
      | cases e
    rw [this] at q
    refine i_isiSeq false hz htp e ?_
    walk_at "go"
    exact q G (Same.refl _)
  | true =>
    obtain ⟨ds, hd⟩ : ∃ ds, d = .list ds ∨ d = .tuple ds := by
      cases d <;> first
        | exact ⟨_, .inl rfl⟩
        | exact ⟨_, .inr rfl⟩
        | cases e
    refine i_isiSeq true hz htp e ?_
    walk_at "go"
    refine len hd hz ?_
    walk_at "go"
    refine i_decN (fun e2 => ?_) (fun e2 => ?_)
    · have : prD R1.length R2.length d = none := by
        rw [prD_two]
        have : twoD d = none := by
          rcases hd with rfl | rfl <;>
          · match ds, e2 with
            | [x, y], e2 => exact absurd rfl e2
            | [], _ => rfl
            | [_], _ => rfl
            | _ :: _ :: _ :: _, _ => rfl
        rw [this]
      rw [this] at q
      walk_at "go"
      exact q G (Same.refl _)
    obtain ⟨x, y, et⟩ : ∃ x y, twoD d = some (x, y) := by
      match ds, hd, e2 with
      | [x, y], hd, _ => rcases hd with rfl | rfl <;> exact ⟨x, y, rfl⟩
      | [], _, e2 => exact absurd e2 (by simp)
      | [_], _, e2 => exact absurd e2 (by simp)
      | _ :: _ :: _ :: _, _, e2 => exact absurd e2 (by simp; omega)
    obtain ⟨a, vx, vy, rfl, hH, ax, ay⟩ := twoAt hz et
    have ep := prD_two R1.length R2.length d
    rw [et] at ep
    have no : isI x = false ∨ isI y = false → prD R1.length R2.length d = none := fun h => by
      rw [ep]
      rcases h with h | h
      · cases x <;> first
          | rfl
          | cases h
      · cases x <;> first
          | rfl
          | (cases y <;> first
              | rfl
              | cases h)
    walk_at "go"
    refine i_ix2 (v := vx) hH rfl ?_
    walk_at "go"
    refine ⟨x, ax, ?_⟩
    refine ⟨_, rfl, ?_⟩
    cases ex : isI x with
    | false =>
      rw [no (.inl ex)] at q
      walk_at "go"
      exact q G (Same.refl _)
    | true =>
    walk_at "go"
    refine i_ix2 (v := vy) hH rfl ?_
    walk_at "go"
    refine ⟨y, ay, ?_⟩
    refine ⟨_, rfl, ?_⟩
    cases ey : isI y with
    | false =>
      rw [no (.inr ey)] at q
      walk_at "go"
      exact q G (Same.refl _)
    | true =>
    obtain ⟨i, rfl⟩ : ∃ i, x = .int i := by
      cases x <;> first
        | exact ⟨_, rfl⟩
        | cases ex
    obtain ⟨j, rfl⟩ : ∃ j, y = .int j := by
      cases y <;> first
        | exact ⟨_, rfl⟩
        | cases ey
    obtain rfl := ax.intd
    obtain rfl := ay.intd
    obtain ⟨xs1, hx1, xl1, _⟩ := l1.same s1
    obtain ⟨xs2, hx2, xl2, _⟩ := l2.same s1
    have ep : prD R1.length R2.length d = if 0 ≤ i ∧ i < R1.length ∧ 0 ≤ j ∧ j < R2.length then some (i.toNat, j.toNat) else none := ep
    rw [ep] at q
    have yes : (0 ≤ i ∧ i < R1.length ∧ 0 ≤ j ∧ j < R2.length) → Q (.bl true) G := fun h => by
      have := q G (Same.refl _)
      rw [if_pos h] at this
      exact this
    have nope : ¬ (0 ≤ i ∧ i < R1.length ∧ 0 ≤ j ∧ j < R2.length) → Q (.bl false) G := fun h => by
      have := q G (Same.refl _)
      rw [if_neg h] at this
      exact this
    walk_at "go"
    refine i_ix2 (v := .int i) hH rfl ?_
    walk_at "go"
    refine i_dec (fun c1 => ?_) (fun c1 => ?_)
    rotate_left
    · walk_at "go"
      exact nope fun z => c1 z.1
    walk_at "go"
    refine i_len_lst (.inl (.inl hx1)) ?_
    walk_at "go"
    rw [xl1]
    refine i_dec (fun c2 => ?_) (fun c2 => ?_)
    rotate_left
    · walk_at "go"
      exact nope fun z => c2 z.2.1
    walk_at "go"
    refine i_ix2 (v := .int j) hH rfl ?_
    walk_at "go"
    refine i_dec (fun c3 => ?_) (fun c3 => nope fun z => c3 z.2.2.1)
    walk_at "go"
    refine i_len_lst (.inl (.inl hx2)) ?_
    walk_at "go"
    rw [xl2]
    by_cases c4 : j < R2.length
    · rw [decide_eq_true c4]
      exact yes ⟨c1, c2, c3, c4⟩
    · rw [decide_eq_false c4]
      exact nope fun z => c4 z.2.2.2
end
end K47
namespace K47
open PySem PySem.Spec PyProof.Rows L2 Fg
local macro_rules | `(tactic| walk_at "sq") => `(tactic| first
  | assumption
  | exact .inl (.inl (by assumption))
  | exact .inl (.inl upd_same))
local macro_rules | `(tactic| walk_at "st") => `(tactic| first
  | assumption
  | exact .inl (.inl (by assumption))
  | exact .inl (.inl upd_same))
local macro_rules | `(tactic| walk_at "o") => `(tactic| first
  | omega
  | assumption
  | (simp only [List.length_append, List.length_take, List.length_drop, List.length_cons, List.length_nil, List.length_singleton, List.length_map, List.length_range, Int.toNat_natCast] ; omega))
local macro_rules | `(tactic| walk_at "s") => `(tactic| first
  | (with_reducible refine i_seq ?_)
  | (with_reducible refine i_asg ?_)
  | ((with_reducible refine' i_var ?h1 ?_); (case h1 => rfl))
  | (with_reducible refine i_c ?_)
  | ((with_reducible refine' i_gname' ?h1 ?_); (case h1 => (simp only [List.set_cons_zero, List.set_cons_succ]; rfl)))
  | (with_reducible refine i_op ?_)
  | (with_reducible refine i_ifS ?_)
  | (with_reducible refine i_for ?_)
  | (with_reducible refine i_test ?_)
  | (with_reducible refine i_B ?_)
  | (with_reducible refine i_exbl ?_)
  | (with_reducible refine i_exint ?_)
  | (with_reducible refine i_cb ?_)
  | (with_reducible refine i_nil ?_)
  | (with_reducible refine i_cons ?_)
  | (with_reducible refine i_ret ?_)
  | (with_reducible refine i_sl ?_)
  | (with_reducible refine i_nopart ?_)
  | (with_reducible refine i_part ?_)
  | (with_reducible refine i_add_int ?_)
  | (with_reducible refine i_sub ?_)
  | (with_reducible refine i_lt ?_)
  | ((with_reducible refine' i_mod ?h1 ?_); (case h1 => walk_at "o"))
  | ((with_reducible refine' i_fdiv ?h1 ?_); (case h1 => (refine cdiv_small ?_ ?_ <;> walk_at "o")))
  | ((with_reducible refine' i_sl_to ?h1 ?h2 ?_); (case h1 => walk_at "o"); (case h2 => walk_at "o"))
  | ((with_reducible refine' i_sl_from ?h1 ?h2 ?_); (case h1 => walk_at "o"); (case h2 => walk_at "o"))
  | ((with_reducible refine' i_add_str ?h1 ?_); (case h1 => walk_at "o"))
  | ((with_reducible refine' i_mul_int ?h1 ?_); (case h1 => first | (refine mul_small ?_ ?_ <;> walk_at "o") | (refine mul_smallR ?_ ?_ <;> walk_at "o")))
  | (with_reducible refine i_le ?_)
  | (with_reducible refine i_gt ?_)
  | (with_reducible refine i_ge ?_)
  | (with_reducible refine i_eq_int ?_)
  | (with_reducible refine i_eq_str ?_)
  | (with_reducible refine i_ne_int ?_)
  | (with_reducible refine i_ne_str ?_)
  | (with_reducible refine i_eq_bl ?_)
  | (with_reducible refine i_ne_bl ?_)
  | (with_reducible refine i_in_sg ?_)
  | (with_reducible refine i_notIn_sg ?_)
  | (with_reducible refine i_call ?_)
  | (with_reducible refine i_callS ?_)
  | (with_reducible refine i_sp1 ?_)
  | (with_reducible refine i_sp2 ?_)
  | (with_reducible refine i_sp3 ?_)
  | (with_reducible refine i_sp4 ?_)
  | (with_reducible refine i_sp1' ?_)
  | (with_reducible refine i_sp2' ?_)
  | (with_reducible refine i_sp3' ?_)
  | ((with_reducible refine' i_ix_lst ?h1 ?h2 ?_); (case h1 => walk_at "sq"); (case h2 => first | exact atI_nat rfl | rfl))
  | ((with_reducible refine' i_ix_tup ?h1 ?h2 ?_); (case h1 => walk_at "st"); (case h2 => first | exact atI_nat rfl | rfl))
  | (with_reducible refine i_gsub ?_)
  | (with_reducible refine i_par ?_)
  | (with_reducible refine i_lstRg1 ?_)
  | (with_reducible refine i_app ?_)
  | (with_reducible refine i_par2 ?_)
  | ((with_reducible refine' i_aug ?h1 ?_); (case h1 => rfl))
  | (with_reducible refine i_ipI ?_)
  | ((with_reducible refine' i_gtup2 ?h1 ?_); (case h1 => walk_at "st"))
  | (with_reducible refine i_int_bl ?_)
  | (with_reducible refine i_raise ?_)
  | (with_reducible refine i_mkE ?_)
  | (with_reducible refine i_ex1 ?_)
  | (with_reducible refine i_and ?_)
  | (with_reducible refine i_or ?_)
  | (with_reducible refine i_not ?_)
  | (with_reducible refine i_tt ?_)
  | (with_reducible refine i_ff ?_)
  | (with_reducible refine i_nott ?_)
  | (with_reducible refine i_notf ?_)
  | (with_reducible refine i_andV ?_)
  | (with_reducible refine i_orV ?_)
  | (with_reducible refine i_notV ?_)
  | (with_reducible refine i_ifE ?_)
  | (with_reducible refine i_tup ?_)
  | (with_reducible refine i_lst ?_)
  | (with_reducible refine i_un ?_)
  | (with_reducible refine i_neg ?_)
  | (with_reducible refine i_chain ?_)
  | (with_reducible refine i_next ?_)
  | (with_reducible refine i_retN ?_)
  | (with_reducible refine i_drop ?_)
  | (with_reducible refine i_int_int ?_)
  | (with_reducible refine i_abs ?_)
  | (with_reducible refine i_m1c ?_)
  | (with_reducible refine i_is_non ?_)
  | (with_reducible refine i_is_int ?_)
  | (with_reducible refine i_is_bl ?_)
  | (with_reducible refine i_isn_bl ?_)
  | (with_reducible refine i_is_str ?_)
  | (with_reducible refine i_is_ref ?_)
  | (with_reducible refine i_isn_non ?_)
  | (with_reducible refine i_isn_int ?_)
  | (with_reducible refine i_isn_str ?_)
  | (with_reducible refine i_isn_ref ?_)
  | (with_reducible refine i_len_str ?h1 ?_; (case h1 => walk_at "o"))
  | (with_reducible refine i_callD ?_)
  | (with_reducible refine i_spD2 ?_)
  | (with_reducible refine i_spM1 ?_)
  | (with_reducible refine i_spM2 ?_)
  | (with_reducible refine i_spM3 ?_)
  | (with_reducible refine i_spM4 ?_)
  | (with_reducible refine i_spM3d ?_)
  | (with_reducible refine i_tfld ?_)
  | (with_reducible refine i_sfld ?_)
  | (with_reducible refine i_meth ?_)
  | (with_reducible refine i_make ?_)
  | (with_reducible refine i_spl ?_)
  | (with_reducible refine i_mkE2 ?_)
  | (with_reducible refine i_ex2 ?_)
  | (with_reducible refine i_dget ?_)
  | (with_reducible refine i_tru ?_)
  | (with_reducible refine i_dput ?_)
  | (with_reducible refine i_dnotin ?_)
  | (with_reducible refine i_din ?_)
  | (with_reducible refine i_rev ?_)
  | (with_reducible refine i_isi_int_int ?_) | (with_reducible refine i_isi_int_bool ?_) | (with_reducible refine i_isi_int_str ?_) | (with_reducible refine i_isi_int_tuple ?_) | (with_reducible refine i_isi_int_list ?_)
  | (with_reducible refine i_isi_bl_int ?_) | (with_reducible refine i_isi_bl_bool ?_) | (with_reducible refine i_isi_bl_str ?_) | (with_reducible refine i_isi_bl_tuple ?_) | (with_reducible refine i_isi_bl_list ?_)
  | (with_reducible refine i_isi_str_int ?_) | (with_reducible refine i_isi_str_bool ?_) | (with_reducible refine i_isi_str_str ?_) | (with_reducible refine i_isi_str_tuple ?_) | (with_reducible refine i_isi_str_list ?_)
  | (with_reducible refine i_isi_non_int ?_) | (with_reducible refine i_isi_non_bool ?_) | (with_reducible refine i_isi_non_str ?_) | (with_reducible refine i_isi_non_tuple ?_) | (with_reducible refine i_isi_non_list ?_))
local macro_rules | `(tactic| walk_at "go") => `(tactic| (repeat' (walk_at "s")))
local macro_rules | `(tactic| walk_at "n") => `(tactic| simp only [wipe, List.map_cons, List.map_nil, List.set_cons_zero, List.set_cons_succ])
/-- a pair that stands in a thing -/
theorem prAt {H : Hp} {v : V} {d : PyData} {n1 n2 : Nat} {p : Nat × Nat} (h : At H v d) (e : prD n1 n2 d = some p) : ∃ a, v = .ref a ∧ (H a = some (.lst [.int (p.1 : Int), .int (p.2 : Int)]) ∨ H a = some (.tup [.int (p.1 : Int), .int (p.2 : Int)])) := by
  obtain ⟨_, _, rfl | rfl⟩ := prD_some e
  · obtain ⟨a, vx, vy, rfl, hH, ax, ay⟩ := twoAt h (x := .int (p.1 : Int)) (y := .int (p.2 : Int)) rfl
    rw [ax.intd, ay.intd] at hH
    exact ⟨a, rfl, hH⟩
  · obtain ⟨a, vx, vy, rfl, hH, ax, ay⟩ := twoAt h (x := .int (p.1 : Int)) (y := .int (p.2 : Int)) rfl
    rw [ax.intd, ay.intd] at hH
    exact ⟨a, rfl, hH⟩
section
variable {P : Program} {w : World} {K : PySem.W.Frag} {mg : Str → Option Value} {base : Heap} {C_GlimError C_BadRow C_BadReader C_Reader : Addr}
def p_L_is_closed : P4 := fun x y z u H Q _ => ∃ r1 r2 a t R1 R2, ∃ (n : Nat) (l : List (Nat × Nat)) (p : Nat × Nat), x = .ref r1 ∧ y = .ref r2 ∧ z = .ref a ∧ u = .ref t ∧ LA H r1 R1 ∧ LA H r2 R2 ∧ Good R1 ∧ Good R2 ∧ (H a = some (.lst [.int (p.1 : Int), .int (p.2 : Int)]) ∨ H a = some (.tup [.int (p.1 : Int), .int (p.2 : Int)])) ∧ p.1 < R1.length ∧ p.2 < R2.length ∧ KD n H t (thK l) ∧
  ∀ H', Same H H' → Q (.bl (closed R1 R2 l p)) H'
theorem ok_L_is_closed (T : Txt K mg C_GlimError C_BadRow C_BadReader C_Reader) : OK P w K mg base CX0 1 "_law_is_closed" ["_law_one", "_law_two_here", "_law_pair", "_law_there"] (sp4  p_L_is_closed) := by
  refine OK.mk (k := 0) T.d_L_is_closed sc_L_is_closed len4 fun f cdv A outer s H vs Q E hr h => ?_
  obtain ⟨x, y, z, u, rfl, h⟩ := h
  refine ⟨_, (pss_cons (ps_if (pw_or (pt_cmpR (opNe K hr.units) (pe_ix (ixK K) (pe_ix (ixK K) (pv 0) (pe_ix (ixK K) (pv 2) pe_int (fun _ _ => rfl)) (fun _ _ => rfl)) pe_int (fun _ _ => rfl)) (pe_S []) (nomark _)) (pw_or1 (pt_cmpR (opNe K hr.units) (pe_ix (ixK K) (pe_ix (ixK K) (pv 1) (pe_ix (ixK K) (pv 2) pe_int (fun _ _ => rfl)) (fun _ _ => rfl)) pe_int (fun _ _ => rfl)) (pe_S []) (nomark _)))).pt (pss_one (ps_ret pe_bl)) pss_nil) (pss_cons (ps_for PassesOwn.never rfl (pi_range1 rfl T.b_range (pa_cons pe_int pa_nil)) (pg_name (i := 4) sc_L_is_closed.nd rfl (Or.inl rfl)) (pss_cons (ps_set (i := 5) sc_L_is_closed.nd rfl (Or.inl rfl) (pe_tup (pa_cons (pe_ix (ixK K) (pe_ix (ixK K) (pe_ix (ixK K) (pv 0) (pe_ix (ixK K) (pv 2) pe_int (fun _ _ => rfl)) (fun _ _ => rfl)) pe_int (fun _ _ => rfl)) (pv 4) (fun _ _ => rfl)) (pa_cons (pe_ix (ixK K) (pe_ix (ixK K) (pe_ix (ixK K) (pv 1) (pe_ix (ixK K) (pv 2) pe_int (fun _ _ => rfl)) (fun _ _ => rfl)) pe_int (fun _ _ => rfl)) (pv 4) (fun _ _ => rfl)) pa_nil)))) (pss_cons (ps_if (pt_cmpR (opNe K hr.units) (pe_ix (ixK K) (pe_ix (ixK K) (pv 0) (pe_ix (ixK K) (pv 5) pe_int (fun _ _ => rfl)) (fun _ _ => rfl)) pe_int (fun _ _ => rfl)) (pe_ix (ixK K) (pe_ix (ixK K) (pv 1) (pe_ix (ixK K) (pv 5) pe_int (fun _ _ => rfl)) (fun _ _ => rfl)) pe_int (fun _ _ => rfl)) (nomark _)) (pss_one (ps_ret pe_bl)) pss_nil) (pss_one (ps_if (pw_and (pt_cmpR (opEq K hr.units) (pe_ix (ixK K) (pe_ix (ixK K) (pv 0) (pe_ix (ixK K) (pv 5) pe_int (fun _ _ => rfl)) (fun _ _ => rfl)) pe_int (fun _ _ => rfl)) (pe_S []) (nomark _)) (pw_and1 (pt_cmp (pc_dnotin (hu_of hr) (pv 5) (pv 3))))).pt (pss_one (ps_ret pe_bl)) pss_nil))))) (pss_one (ps_ret pe_bl)))), ?_⟩
  show (_ : TS) { nx := fun _ H' => Q .non H', rt := Q } [some x, some y, some z, some u, none, none] H
  obtain ⟨r1, r2, a, t, R1, R2, n, l, p, rfl, rfl, rfl, rfl, l1, l2, g1, g2, ha, hp1, hp2, kd, q⟩ := h
  have px : ∀ {G : Hp} {R : VK}, Same H G → R (.int (p.1 : Int)) G → ixP K (.ref a) (.int 0) G R := fun s k => i_ix2 (v := .int (p.1 : Int)) (by rcases ha with h | h; exact .inl (s _ _ h); exact .inr (s _ _ h)) rfl k
  have py : ∀ {G : Hp} {R : VK}, Same H G → R (.int (p.2 : Int)) G → ixP K (.ref a) (.int 1) G R := fun s k => i_ix2 (v := .int (p.2 : Int)) (by rcases ha with h | h; exact .inl (s _ _ h); exact .inr (s _ _ h)) rfl k
  have q : ∀ H', Same H H' → Q (.bl ((decide (wd R1 p.1 = []) && decide (wd R2 p.2 = [])) && (List.range 4).all fun k => okAt R1 R2 l p k)) H' := q
  walk_at "go"
  refine px (Same.refl _) ?_
  refine i_la l1 hp1 fun a1 b1 ha1 hb1 => ?_
  walk_at "go"
  refine i_decN (fun e1 => ?_) (fun e1 => ?_)
  · rw [decide_eq_false e1, Bool.false_and, Bool.false_and] at q
    walk_at "go"
    exact q _ (Same.refl _)
  rw [decide_eq_true e1, Bool.true_and] at q
  walk_at "go"
  refine py (Same.refl _) ?_
  refine i_la l2 hp2 fun a2 b2 ha2 hb2 => ?_
  walk_at "go"
  refine i_decN (fun e2 => ?_) (fun e2 => ?_)
  · rw [decide_eq_false e2, Bool.false_and] at q
    walk_at "go"
    exact q _ (Same.refl _)
  rw [decide_eq_true e2, Bool.true_and] at q
  clear ha1 hb1 ha2 hb2
  walk_at "go"
  refine f_rng1 4 (fun R k => by walk_at "go"; exact k) (by decide) (fun k σ' G => ∃ v4 v5, σ' = [some (.ref r1), some (.ref r2), some (.ref a), some (.ref t), v4, v5] ∧ Same H G ∧ ∀ m < k, okAt R1 R2 l p m = true) ⟨none, none, rfl, Same.refl _, fun m hm => absurd hm (Nat.not_lt_zero _)⟩ ?_ ?_
  · rintro k σ' G hk ⟨v4, v5, rfl, s1, hm⟩
    show (_ : TS) _ [some (.ref r1), some (.ref r2), some (.ref a), some (.ref t), some (.int (k : Int)), v5] G
    have n1 := (g1.nx hp1 hk).2
    have n2 := (g2.nx hp2 hk).2
    have bad : okAt R1 R2 l p k = false → ∀ H', Same H H' → Q (.bl false) H' := fun e H' s => by
      have : ((List.range 4).all fun k => okAt R1 R2 l p k) = false := by
        rw [List.all_eq_false]
        exact ⟨k, List.mem_range.mpr hk, by rw [e]; decide⟩
      rw [this] at q
      exact q H' s
    have good : okAt R1 R2 l p k = true → ∀ m < k + 1, okAt R1 R2 l p m = true := fun e m hm' => by
      rcases Nat.lt_or_ge m k with h | h
      · exact hm m h
      · obtain rfl : m = k := by omega
        exact e
    have ok : okAt R1 R2 l p k = (decide (wd R1 (nx R1 p.1 k) = wd R2 (nx R2 p.2 k)) && (!decide (wd R1 (nx R1 p.1 k) = []) || decide ((nx R1 p.1 k, nx R2 p.2 k) ∈ l))) := rfl
    walk_at "go"
    refine px s1 ?_
    refine i_la (l1.same s1) hp1 fun a1 b1 ha1 hb1 => ?_
    walk_at "go"
    refine i_nx g1 hp1 hk hb1 ?_
    walk_at "go"
    refine py s1 ?_
    refine i_la (l2.same s1) hp2 fun a2 b2 ha2 hb2 => ?_
    walk_at "go"
    refine i_nx g2 hp2 hk hb2 ?_
    walk_at "go"
    refine i_new (by show 2 ≤ 100000; omega) fun c nc => ?_
    have s2 := s1.trans (same_upd (o := .tup [.int (nx R1 p.1 k : Int), .int (nx R2 p.2 k : Int)]) nc)
    have hc : (upd G c (.tup [.int (nx R1 p.1 k : Int), .int (nx R2 p.2 k : Int)])) c = some (.tup [.int (nx R1 p.1 k : Int), .int (nx R2 p.2 k : Int)]) := upd_same
    clear ha1 hb1 ha2 hb2
    generalize upd G c (.tup [.int (nx R1 p.1 k : Int), .int (nx R2 p.2 k : Int)]) = G2 at *
    have hcK : G2 c = some (.tup ((key2 (nx R1 p.1 k, nx R2 p.2 k)).map kV)) := hc
    walk_at "go"
    refine i_la (l1.same s2) n1 fun a1 b1 ha1 hb1 => ?_
    walk_at "go"
    refine i_la (l2.same s2) n2 fun a2 b2 ha2 hb2 => ?_
    walk_at "go"
    refine i_decN (fun e1 => ?_) (fun e1 => ?_)
    · rw [decide_eq_false e1, Bool.false_and] at ok
      walk_at "go"
      exact bad ok _ s2
    rw [decide_eq_true e1, Bool.true_and] at ok
    clear ha1 hb1 ha2 hb2
    walk_at "go"
    refine i_la (l1.same s2) n1 fun a1 b1 ha1 hb1 => ?_
    walk_at "go"
    refine i_dec (fun e2 => ?_) (fun e2 => ?_)
    · rw [decide_eq_true e2, Bool.not_true, Bool.false_or] at ok
      walk_at "go"
      refine kd_askT (kd.mono s2) hcK ?_
      rw [thK_at]
      walk_at "go"
      refine i_decN (fun e3 => ?_) (fun e3 => ?_)
      · rw [decide_eq_false e3] at ok
        walk_at "go"
        exact bad ok _ s2
      · rw [decide_eq_true e3] at ok
        walk_at "go"
        exact ⟨_, _, rfl, s2, good ok⟩
    · rw [decide_eq_false e2, Bool.not_false, Bool.true_or] at ok
      walk_at "go"
      exact ⟨_, _, rfl, s2, good ok⟩
  · rintro σ' G ⟨v4, v5, rfl, s1, hm⟩
    have : ((List.range 4).all fun k => okAt R1 R2 l p k) = true := List.all_eq_true.mpr fun k hk => hm k (List.mem_range.mp hk)
    rw [this] at q
    walk_at "go"
    exact q _ s1
def p_L_judged : P3 := fun x y z H Q _ => ∃ r1 r2 R1 R2 ds, x = .ref r1 ∧ y = .ref r2 ∧ LA H r1 R1 ∧ LA H r2 R2 ∧ Good R1 ∧ Good R2 ∧ At H z (.list ds) ∧ ∀ H', Same H H' → Q (oI (judged R1 R2 ds)) H'
theorem ok_L_judged (T : Txt K mg C_GlimError C_BadRow C_BadReader C_Reader) : OK P w K mg base CX0 3 "_law_judged" ["_law_one", "_law_two_here", "_law_table"] (sp3  p_L_judged) := by
  refine OK.mk (k := 2) T.d_L_judged sc_L_judged len3 fun f cdv A outer s H vs Q E hr h => ?_
  obtain ⟨x, y, z, rfl, h⟩ := h
  refine ⟨_, (pss_cons (ps_set (i := 3) sc_L_judged.nd rfl (Or.inl rfl) pe_dnewT) (pss_cons (ps_for PassesOwn.never rfl (piAny K (pv 2)) (pg_name (i := 4) sc_L_judged.nd rfl (Or.inl rfl)) (pss_one (ps_if (pt_val (pe_f (ok_L_is_pair (K := K) T) (hr.mono (by decide)) pass0 (pa_cons (pv 0) (pa_cons (pv 1) (pa_cons (pv 4) pa_nil))))) (pss_one (ps_dput (hu_of hr) (pv 3) (pe_tup (pa_cons (pe_ix (ixK K) (pv 4) pe_int (fun _ _ => rfl)) (pa_cons (pe_ix (ixK K) (pv 4) pe_int (fun _ _ => rfl)) pa_nil))) pe_bl rfl)) pss_nil))) (Evl.pss_cut (ps_if (pw_and (pt_cmp (pc_dnotin (hu_of hr) (pe_tup (pa_cons pe_int (pa_cons pe_int pa_nil))) (pv 3))) (pw_and1 (pw_or (pt_cmpR (opEq K hr.units) (pe_ix (ixK K) (pe_ix (ixK K) (pv 0) pe_int (fun _ _ => rfl)) pe_int (fun _ _ => rfl)) (pe_S []) (nomark _)) (pw_or1 (pt_cmpR (opNe K hr.units) (pe_ix (ixK K) (pe_ix (ixK K) (pv 0) pe_int (fun _ _ => rfl)) pe_int (fun _ _ => rfl)) (pe_ix (ixK K) (pe_ix (ixK K) (pv 1) pe_int (fun _ _ => rfl)) pe_int (fun _ _ => rfl)) (nomark _)))).pt)).pt (pss_one (ps_ret (pe_un un_neg pe_int))) pss_nil) (pss_cons (ps_for PassesOwn.never rfl (pi_range1 rfl T.b_range (pa_cons (pe_callB (cLen K) (by rfl) T.b_len (by decide +kernel) (pa_cons (pv 2) pa_nil)) pa_nil)) (pg_name (i := 5) sc_L_judged.nd rfl (Or.inl rfl)) (pss_one (ps_if (pw_or (pt_not (pt_val (pe_f (ok_L_is_pair (K := K) T) (hr.mono (by decide)) pass0 (pa_cons (pv 0) (pa_cons (pv 1) (pa_cons (pe_ix (ixK K) (pv 2) (pv 5) (fun _ _ => rfl)) pa_nil)))))) (pw_or1 (pt_not (pt_val (pe_f (ok_L_is_closed (K := K) T) (hr.mono (by decide)) pass0 (pa_cons (pv 0) (pa_cons (pv 1) (pa_cons (pe_ix (ixK K) (pv 2) (pv 5) (fun _ _ => rfl)) (pa_cons (pv 3) pa_nil))))))))).pt (pss_one (ps_ret (pv 5))) pss_nil))) (pss_one (ps_ret pe_non)))))), ?_⟩
  show (_ : TS) { nx := fun _ H' => Q .non H', rt := Q } [some x, some y, some z, none, none, none] H
  obtain ⟨r1, r2, R1, R2, ds, rfl, rfl, l1, l2, g1, g2, hz, q⟩ := h
  obtain ⟨a, xs, rfl, hA, hl, al⟩ := hz.listed
  have ll := al.len
  walk_at "go"
  refine i_dnewT fun D nD => ?_
  walk_at "go"
  refine i_forL (xs := xs) (.inl (.inl (same_upd nD _ _ hA))) (fun i σ G => ∃ v4, σ = [some (.ref r1), some (.ref r2), some (.ref a), some (.ref D), v4, none] ∧ Same H G ∧ KD i G D (thK (prs R1.length R2.length (ds.take i)))) ⟨none, rfl, same_upd nD, by
    rw [List.take_zero]
    show KD 0 _ D (thK [])
    rw [thK_nil]
    exact KD.new⟩ ?_ ?_ ?_
  · rintro i σ G _ ⟨v4, rfl, s1, _⟩
    exact .inl (.inl (s1 _ _ hA))
  · rintro i x σ G hi ⟨v4, rfl, s1, kd⟩
    show (_ : TS) _ [some (.ref r1), some (.ref r2), some (.ref a), some (.ref D), some x, none] G
    obtain ⟨c, hc, ac⟩ := al.get hi
    have stp := prs_step (n1 := R1.length) (n2 := R2.length) hc
    have il := (List.getElem?_eq_some_iff.mp hi).1
    walk_at "go"
    refine ⟨r1, r2, R1, R2, c, rfl, rfl, l1.same s1, l2.same s1, ac.same s1, fun G2 s2 => ?_⟩
    have s3 := s1.trans s2
    have kd := kd.mono s2
    cases ep : prD R1.length R2.length c with
    | none =>
      rw [ep] at stp
      rw [Option.isSome_none]
      refine ⟨_, rfl, ?_⟩
      walk_at "go"
      refine ⟨_, rfl, s3, ?_⟩
      rw [stp]
      exact (by simpa using kd.le (Nat.le_succ i))
    | some p =>
      rw [ep] at stp
      obtain ⟨b, rfl, hb⟩ := prAt (ac.same s3) ep
      rw [Option.isSome_some]
      refine ⟨_, rfl, ?_⟩
      walk_at "go"
      refine i_ix2 (v := .int (p.1 : Int)) hb rfl ?_
      walk_at "go"
      refine i_ix2 (v := .int (p.2 : Int)) hb rfl ?_
      walk_at "go"
      refine i_new (by show 2 ≤ 100000; omega) fun kp nkp => ?_
      refine kd_put (k := key2 p) (v := .bl true) (kd.mono (same_upd nkp)) upd_same (by omega) fun o4 kd4 => ?_
      rw [thK_app] at kd4
      refine ⟨_, rfl, Same.upd (s3.trans (same_upd nkp)) nD, ?_⟩
      rw [stp]
      exact kd4
  · rintro σ G ⟨v4, rfl, s1, kd⟩
    rw [List.take_of_length_le (by rw [ll]; exact Nat.le_refl _)] at kd
    have q : ∀ H', Same H H' → Q (oI (if (!decide ((0, 0) ∈ prs R1.length R2.length ds) && (decide (wd R1 0 = []) || !decide (wd R1 0 = wd R2 0))) = true then some (-1) else (ds.findIdx? (wrongAt R1 R2 (prs R1.length R2.length ds))).map fun n : Nat => (n : Int))) H' := q
    have early : (!decide ((0, 0) ∈ prs R1.length R2.length ds) && (decide (wd R1 0 = []) || !decide (wd R1 0 = wd R2 0))) = true → ∀ H', Same H H' → Q (.int (-1)) H' := fun e H' s => by
      have := q H' s
      rw [if_pos e] at this
      exact this
    have rest : (!decide ((0, 0) ∈ prs R1.length R2.length ds) && (decide (wd R1 0 = []) || !decide (wd R1 0 = wd R2 0))) = false → ∀ H', Same H H' → Q (oI ((ds.findIdx? (wrongAt R1 R2 (prs R1.length R2.length ds))).map fun n : Nat => (n : Int))) H' := fun e H' s => by
      have := q H' s
      rw [if_neg (by rw [e]; decide)] at this
      exact this
    walk_at "go"
    refine i_cut (fun σ G' => σ = [some (.ref r1), some (.ref r2), some (.ref a), some (.ref D), v4, none] ∧ Same G G' ∧ ∀ H', Same H H' → Q (oI ((ds.findIdx? (wrongAt R1 R2 (prs R1.length R2.length ds))).map fun n : Nat => (n : Int))) H') ?_ ?_
    · walk_at "go"
      refine i_new (by show 2 ≤ 100000; omega) fun c1 nc1 => ?_
      have sc1 := same_upd (o := .tup [.int 0, .int 0]) nc1
      walk_at "go"
      refine kd_askT (kd.mono sc1) (k := key2 (0, 0)) upd_same ?_
      rw [thK_at]
      have s2 := s1.trans sc1
      generalize upd G c1 (.tup [.int 0, .int 0]) = G1 at *
      walk_at "go"
      refine i_decN (fun e1 => ?_) (fun e1 => ?_)
      · rw [decide_eq_false e1, Bool.not_false, Bool.true_and] at early rest
        walk_at "go"
        refine i_la0 (l1.same s2) g1.one fun a1 b1 ha1 hb1 => ?_
        walk_at "go"
        refine i_dec (fun e2 => ?_) (fun e2 => ?_)
        · rw [decide_eq_true e2, Bool.true_or] at early
          walk_at "go"
          exact early rfl _ s2
        · rw [decide_eq_false e2, Bool.false_or] at early rest
          walk_at "go"
          refine i_la0 (l1.same s2) g1.one fun a1 b1 ha1 hb1 => ?_
          walk_at "go"
          refine i_la0 (l2.same s2) g2.one fun a1 b1 ha1 hb1 => ?_
          walk_at "go"
          refine i_decN (fun e3 => ?_) (fun e3 => ?_)
          · rw [decide_eq_false e3] at early
            walk_at "go"
            exact early rfl _ s2
          · rw [decide_eq_true e3] at rest
            exact ⟨rfl, sc1, rest rfl⟩
      · rw [decide_eq_true e1] at rest
        exact ⟨rfl, sc1, rest rfl⟩
    · rintro σ G1 ⟨rfl, sc1, q⟩
      have s2 := s1.trans sc1
      have kd := kd.mono sc1
      refine i_forR ?_
      walk_at "go"
      refine i_len_lst (.inl (.inl (s2 _ _ hA))) ?_
      rw [ll]
      walk_at "go"
      refine i_rngD (n := (ds.length : Int)) (by omega) (by omega) (fun i σ G => ∃ v4 v5, σ = [some (.ref r1), some (.ref r2), some (.ref a), some (.ref D), v4, v5] ∧ Same G1 G ∧ ∀ k < i, ∀ c, ds[k]? = some c → wrongAt R1 R2 (prs R1.length R2.length ds) c = false) ⟨v4, none, rfl, Same.refl _, fun k hk => absurd hk (Nat.not_lt_zero _)⟩ ?_ ?_
      · rintro i σ G hi ⟨v4, v5, rfl, s5, hb⟩
        show (_ : TS) _ [some (.ref r1), some (.ref r2), some (.ref a), some (.ref D), v4, some (.int (i : Int))] G
        have il : i < xs.length := by omega
        have hx : xs[i]? = some xs[i] := List.getElem?_eq_getElem il
        obtain ⟨e, he, ae⟩ := al.get hx
        have s6 := s2.trans s5
        walk_at "go"
        refine i_ix_lst (.inl (.inl (s6 _ _ hA))) (atI_nat hx) ?_
        walk_at "go"
        refine ⟨r1, r2, R1, R2, e, rfl, rfl, l1.same s6, l2.same s6, ae.same s6, fun G3 s7 => ?_⟩
        have s8 := s6.trans s7
        have wr : wrongAt R1 R2 (prs R1.length R2.length ds) e = (match prD R1.length R2.length e with
          | none => true
          | some p => !closed R1 R2 (prs R1.length R2.length ds) p) := rfl
        have bad : wrongAt R1 R2 (prs R1.length R2.length ds) e = true → ∀ H', Same H H' → Q (.int (i : Int)) H' := fun w H' s => by
          have := q H' s
          rw [find_yes he w hb] at this
          exact this
        cases ep : prD R1.length R2.length e with
        | none =>
          rw [ep] at wr
          rw [Option.isSome_none]
          refine ⟨_, rfl, ?_⟩
          walk_at "go"
          exact bad wr _ s8
        | some p =>
          rw [ep] at wr
          obtain ⟨i1, i2, _⟩ := prD_some ep
          obtain ⟨b, eb, hb'⟩ := prAt (ae.same s8) ep
          rw [Option.isSome_some]
          refine ⟨_, rfl, ?_⟩
          walk_at "go"
          refine i_ix_lst (.inl (.inl (s8 _ _ hA))) (atI_nat hx) ?_
          rw [eb]
          walk_at "go"
          refine ⟨r1, r2, b, D, R1, R2, _, _, p, rfl, rfl, rfl, rfl, l1.same s8, l2.same s8, g1, g2, hb', i1, i2, kd.mono (s5.trans s7), fun H3 s9 => ?_⟩
          refine ⟨_, rfl, ?_⟩
          have wr : wrongAt R1 R2 (prs R1.length R2.length ds) e = !closed R1 R2 (prs R1.length R2.length ds) p := wr
          cases ec : closed R1 R2 (prs R1.length R2.length ds) p with
          | false =>
            rw [ec] at wr
            walk_at "go"
            exact bad wr _ (s8.trans s9)
          | true =>
            rw [ec] at wr
            walk_at "go"
            refine ⟨_, _, rfl, (s5.trans s7).trans s9, fun k hk c' hc' => ?_⟩
            rcases Nat.lt_or_ge k i with h | h
            · exact hb k h c' hc'
            · obtain rfl : k = i := by omega
              rw [he] at hc'
              cases hc'
              exact wr
      · rintro σ G ⟨v4, v5, rfl, s5, hb⟩
        have e := find_no (f := wrongAt R1 R2 (prs R1.length R2.length ds)) (ds := ds) (fun k hk => hb k (by omega))
        rw [e] at q
        walk_at "go"
        exact q G (s2.trans s5)
end
end K47
namespace K47
open PySem PySem.Spec PyProof.Rows L2 Fg
local macro_rules | `(tactic| walk_at "sq") => `(tactic| first
  | assumption
  | exact .inl (.inl (by assumption))
  | exact .inl (.inl upd_same))
local macro_rules | `(tactic| walk_at "st") => `(tactic| first
  | assumption
  | exact .inl (.inl (by assumption))
  | exact .inl (.inl upd_same))
local macro_rules | `(tactic| walk_at "o") => `(tactic| first
  | omega
  | assumption
  | (simp only [List.length_append, List.length_take, List.length_drop, List.length_cons, List.length_nil, List.length_singleton, List.length_map, List.length_range, Int.toNat_natCast] ; omega))
local macro_rules | `(tactic| walk_at "s") => `(tactic| first
  | (with_reducible refine i_seq ?_)
  | (with_reducible refine i_asg ?_)
  | ((with_reducible refine' i_var ?h1 ?_); (case h1 => rfl))
  | (with_reducible refine i_c ?_)
  | ((with_reducible refine' i_gname' ?h1 ?_); (case h1 => (simp only [List.set_cons_zero, List.set_cons_succ]; rfl)))
  | (with_reducible refine i_op ?_)
  | (with_reducible refine i_ifS ?_)
  | (with_reducible refine i_for ?_)
  | (with_reducible refine i_test ?_)
  | (with_reducible refine i_B ?_)
  | (with_reducible refine i_exbl ?_)
  | (with_reducible refine i_exint ?_)
  | (with_reducible refine i_cb ?_)
  | (with_reducible refine i_nil ?_)
  | (with_reducible refine i_cons ?_)
  | (with_reducible refine i_ret ?_)
  | (with_reducible refine i_sl ?_)
  | (with_reducible refine i_nopart ?_)
  | (with_reducible refine i_part ?_)
  | (with_reducible refine i_add_int ?_)
  | (with_reducible refine i_sub ?_)
  | (with_reducible refine i_lt ?_)
  | ((with_reducible refine' i_mod ?h1 ?_); (case h1 => walk_at "o"))
  | ((with_reducible refine' i_fdiv ?h1 ?_); (case h1 => (refine cdiv_small ?_ ?_ <;> walk_at "o")))
  | ((with_reducible refine' i_sl_to ?h1 ?h2 ?_); (case h1 => walk_at "o"); (case h2 => walk_at "o"))
  | ((with_reducible refine' i_sl_from ?h1 ?h2 ?_); (case h1 => walk_at "o"); (case h2 => walk_at "o"))
  | ((with_reducible refine' i_add_str ?h1 ?_); (case h1 => walk_at "o"))
  | ((with_reducible refine' i_mul_int ?h1 ?_); (case h1 => first | (refine mul_small ?_ ?_ <;> walk_at "o") | (refine mul_smallR ?_ ?_ <;> walk_at "o")))
  | (with_reducible refine i_le ?_)
  | (with_reducible refine i_gt ?_)
  | (with_reducible refine i_ge ?_)
  | (with_reducible refine i_eq_int ?_)
  | (with_reducible refine i_eq_str ?_)
  | (with_reducible refine i_ne_int ?_)
  | (with_reducible refine i_ne_str ?_)
  | (with_reducible refine i_eq_bl ?_)
  | (with_reducible refine i_ne_bl ?_)
  | (with_reducible refine i_in_sg ?_)
  | (with_reducible refine i_notIn_sg ?_)
  | (with_reducible refine i_call ?_)
  | (with_reducible refine i_callS ?_)
  | (with_reducible refine i_sp1 ?_)
  | (with_reducible refine i_sp2 ?_)
  | (with_reducible refine i_sp3 ?_)
  | (with_reducible refine i_sp4 ?_)
  | (with_reducible refine i_sp1' ?_)
  | (with_reducible refine i_sp2' ?_)
  | (with_reducible refine i_sp3' ?_)
  | ((with_reducible refine' i_ix_lst ?h1 ?h2 ?_); (case h1 => walk_at "sq"); (case h2 => first | exact atI_nat rfl | rfl))
  | ((with_reducible refine' i_ix_tup ?h1 ?h2 ?_); (case h1 => walk_at "st"); (case h2 => first | exact atI_nat rfl | rfl))
  | (with_reducible refine i_gsub ?_)
  | (with_reducible refine i_par ?_)
  | (with_reducible refine i_lstRg1 ?_)
  | (with_reducible refine i_app ?_)
  | (with_reducible refine i_par2 ?_)
  | ((with_reducible refine' i_aug ?h1 ?_); (case h1 => rfl))
  | (with_reducible refine i_ipI ?_)
  | ((with_reducible refine' i_gtup2 ?h1 ?_); (case h1 => walk_at "st"))
  | (with_reducible refine i_int_bl ?_)
  | (with_reducible refine i_raise ?_)
  | (with_reducible refine i_mkE ?_)
  | (with_reducible refine i_ex1 ?_)
  | (with_reducible refine i_and ?_)
  | (with_reducible refine i_or ?_)
  | (with_reducible refine i_not ?_)
  | (with_reducible refine i_tt ?_)
  | (with_reducible refine i_ff ?_)
  | (with_reducible refine i_nott ?_)
  | (with_reducible refine i_notf ?_)
  | (with_reducible refine i_andV ?_)
  | (with_reducible refine i_orV ?_)
  | (with_reducible refine i_notV ?_)
  | (with_reducible refine i_ifE ?_)
  | (with_reducible refine i_tup ?_)
  | (with_reducible refine i_lst ?_)
  | (with_reducible refine i_un ?_)
  | (with_reducible refine i_neg ?_)
  | (with_reducible refine i_chain ?_)
  | (with_reducible refine i_next ?_)
  | (with_reducible refine i_retN ?_)
  | (with_reducible refine i_drop ?_)
  | (with_reducible refine i_int_int ?_)
  | (with_reducible refine i_abs ?_)
  | (with_reducible refine i_m1c ?_)
  | (with_reducible refine i_is_non ?_)
  | (with_reducible refine i_is_int ?_)
  | (with_reducible refine i_is_bl ?_)
  | (with_reducible refine i_isn_bl ?_)
  | (with_reducible refine i_is_str ?_)
  | (with_reducible refine i_is_ref ?_)
  | (with_reducible refine i_isn_non ?_)
  | (with_reducible refine i_isn_int ?_)
  | (with_reducible refine i_isn_str ?_)
  | (with_reducible refine i_isn_ref ?_)
  | (with_reducible refine i_len_str ?h1 ?_; (case h1 => walk_at "o"))
  | (with_reducible refine i_callD ?_)
  | (with_reducible refine i_spD2 ?_)
  | (with_reducible refine i_spM1 ?_)
  | (with_reducible refine i_spM2 ?_)
  | (with_reducible refine i_spM3 ?_)
  | (with_reducible refine i_spM4 ?_)
  | (with_reducible refine i_spM3d ?_)
  | (with_reducible refine i_tfld ?_)
  | (with_reducible refine i_sfld ?_)
  | (with_reducible refine i_meth ?_)
  | (with_reducible refine i_make ?_)
  | (with_reducible refine i_spl ?_)
  | (with_reducible refine i_mkE2 ?_)
  | (with_reducible refine i_ex2 ?_)
  | (with_reducible refine i_dget ?_)
  | (with_reducible refine i_tru ?_)
  | (with_reducible refine i_dput ?_)
  | (with_reducible refine i_dnotin ?_)
  | (with_reducible refine i_din ?_)
  | (with_reducible refine i_rev ?_)
  | (with_reducible refine i_isi_int_int ?_) | (with_reducible refine i_isi_int_bool ?_) | (with_reducible refine i_isi_int_str ?_) | (with_reducible refine i_isi_int_tuple ?_) | (with_reducible refine i_isi_int_list ?_)
  | (with_reducible refine i_isi_bl_int ?_) | (with_reducible refine i_isi_bl_bool ?_) | (with_reducible refine i_isi_bl_str ?_) | (with_reducible refine i_isi_bl_tuple ?_) | (with_reducible refine i_isi_bl_list ?_)
  | (with_reducible refine i_isi_str_int ?_) | (with_reducible refine i_isi_str_bool ?_) | (with_reducible refine i_isi_str_str ?_) | (with_reducible refine i_isi_str_tuple ?_) | (with_reducible refine i_isi_str_list ?_)
  | (with_reducible refine i_isi_non_int ?_) | (with_reducible refine i_isi_non_bool ?_) | (with_reducible refine i_isi_non_str ?_) | (with_reducible refine i_isi_non_tuple ?_) | (with_reducible refine i_isi_non_list ?_))
local macro_rules | `(tactic| walk_at "go") => `(tactic| (repeat' (walk_at "s")))
local macro_rules | `(tactic| walk_at "n") => `(tactic| simp only [wipe, List.map_cons, List.map_nil, List.set_cons_zero, List.set_cons_succ])
structure OddE (d : PyData) : Prop where
  nd : d.hasDict = false
  dp : d.depth ≤ 3
  rp : Rp 30 d
theorem natS {i : Nat} (h : i ≤ 100000) : ((i : Int)).natAbs < 10 ^ 40 := by
  have : (100000 : Nat) < 10 ^ 40 := by decide
  rw [Int.natAbs_natCast]
  omega
theorem od_int {i : Int} (h : i.natAbs < 10 ^ 40) : OddE (.int i) := ⟨rfl, Nat.zero_le _, Rp.int h⟩
theorem od_two {x y : PyData} (hx : Rp 5 x) (hy : Rp 5 y) (nx : x.hasDict = false) (ny : y.hasDict = false) (dx : x.depth ≤ 1) (dy : y.depth ≤ 1) : OddE (.tuple [x, y]) ∧ OddE (.list [x, y]) := by
  have all : ∀ d ∈ [x, y], Rp 5 d := fun d hd => by
    rcases List.mem_cons.mp hd with rfl | hd
    · exact hx
    · rw [List.mem_singleton.mp hd]; exact hy
  have nd : PyData.hasDictAll [x, y] = false := by
    show (x.hasDict || (y.hasDict || false)) = false
    rw [nx, ny]; rfl
  have dp : PyData.depthAll [x, y] ≤ 1 := by
    show max x.depth (max y.depth 0) ≤ 1
    omega
  exact ⟨⟨nd, Nat.le_trans (Nat.succ_le_succ dp) (by decide), (Rp.tuple all).mono (by show (5 + 1) * 2 ≤ 30; decide)⟩, ⟨nd, Nat.le_trans (Nat.succ_le_succ dp) (by decide), (Rp.list all).mono (by show (5 + 1) * 2 ≤ 30; decide)⟩⟩
theorem od_pair {i j : Int} (h1 : i.natAbs < 10 ^ 40) (h2 : j.natAbs < 10 ^ 40) : OddE (.tuple [.int i, .int j]) ∧ OddE (.list [.int i, .int j]) := od_two (Rp.int h1) (Rp.int h2) rfl rfl (Nat.zero_le _) (Nat.zero_le _)
theorem od_pairD {p : Nat × Nat} (h1 : p.1 ≤ 100000) (h2 : p.2 ≤ 100000) : OddE (pairD p) := (od_pair (natS h1) (natS h2)).1
section
variable {H : Hp} {a : Addr} {vx vy : V} {x y : PyData}
theorem at_two (h : H a = some (.tup [vx, vy])) (hx : At H vx x) (hy : At H vy y) : At H (.ref a) (.tuple [x, y]) := At.mkTup h (.cons hx (.one hy)) (by show 2 ≤ 10000; decide)
theorem at_twoL (h : H a = some (.lst [vx, vy])) (hx : At H vx x) (hy : At H vy y) : At H (.ref a) (.list [x, y]) := At.mkLst h (.cons hx (.one hy)) (by show 2 ≤ 10000; decide)
end
theorem same_got {H H2 : Hp} {q : Addr} {o : HO} (s : Same H H2) (e : H2 q = some o) : Same (upd H q o) H2 := fun b u h => by
  by_cases hb : b = q
  · rw [hb, upd_same] at h; rw [hb, e]; exact h
  · rw [upd_ne hb] at h; exact s _ _ h
theorem kept_int {g : Nat → Bool} {n i : Nat} {v : V} (h : (kept g (fun i => V.int (i : Int)) n)[i]? = some v) : ∃ j : Nat, j < n ∧ v = .int (j : Int) := by
  unfold kept at h
  rw [List.getElem?_map] at h
  obtain ⟨j, hj, rfl⟩ := Option.map_eq_some_iff.mp h
  exact ⟨j, List.mem_range.mp (List.mem_filter.mp (List.mem_of_getElem? hj)).1, rfl⟩
theorem menu_at {A : Hp} {vs : List V} {es : List PyData} {n : Int} (al : AtAll A vs es) (bn : Btw n (es.length : Int)) (h1 : 1 ≤ es.length) : ∃ v e, atI vs n = some v ∧ At A v e ∧ e ∈ es := by
  obtain ⟨k, rfl, hk⟩ := to_nat bn h1
  have hlt : k < vs.length := by rw [al.len]; exact hk
  have hv : vs[k]? = some vs[k] := List.getElem?_eq_getElem hlt
  obtain ⟨e, he, ae⟩ := al.get hv
  exact ⟨_, e, atI_nat hv, ae, List.mem_of_getElem? he⟩
section
variable {P : Program} {w : World} {K : PySem.W.Frag} {mg : Str → Option Value} {base : Heap} {C_GlimError C_BadRow C_BadReader C_Reader : Addr}
def p_L_odd_row (K : PySem.W.Frag) : P4 := fun x y z u H Q _ => ∃ H0 d f r1 r2 a R1 R2, ∃ p : Nat × Nat, x = .ref d.a ∧ y = .ref r1 ∧ z = .ref r2 ∧ u = .ref a ∧ D2 K d f H0 H ∧ LA H0 r1 R1 ∧ LA H0 r2 R2 ∧ Good R1 ∧ Good R2 ∧ (H0 a = some (.lst [.int (p.1 : Int), .int (p.2 : Int)]) ∨ H0 a = some (.tup [.int (p.1 : Int), .int (p.2 : Int)])) ∧ p.1 ≤ 1000 ∧ p.2 ≤ 1000 ∧
  ∀ A H' v e, Same H0 A → D2 K d f A H' → At A v e → OddE e → Q v H'
theorem ok_L_odd_row (T : Txt K mg C_GlimError C_BadRow C_BadReader C_Reader) : OK P w K mg base CX0 3 "_law_odd_row" ["_law_draw_here", "_law_one", "_law_two_here", "_law_pair"] (sp4  (p_L_odd_row K)) := by
  refine OK.mk (k := 2) T.d_L_odd_row sc_L_odd_row len4 fun f cdv A outer s H vs Q E hr h => ?_
  obtain ⟨x, y, z, u, rfl, h⟩ := h
  refine ⟨_, (pss_cons (ps_set (i := 4) sc_L_odd_row.nd rfl (Or.inl rfl) (pe_f (ok_L_pick (K := K) T) (hr.mono (by decide)) pass0 (pa_cons (pv 0) (pa_cons pe_int pa_nil)))) (pss_cons (ps_if (pt_cmpR op_ltP (pv 4) pe_int (nomark _)) (pss_one (ps_ret (pe_tup (pa_cons (pe_f (ok_L_pick (K := K) T) (hr.mono (by decide)) pass0 (pa_cons (pv 0) (pa_cons (pe_callB (cLen K) (by rfl) T.b_len (by decide +kernel) (pa_cons (pv 1) pa_nil)) pa_nil))) (pa_cons (pe_f (ok_L_pick (K := K) T) (hr.mono (by decide)) pass0 (pa_cons (pv 0) (pa_cons (pe_callB (cLen K) (by rfl) T.b_len (by decide +kernel) (pa_cons (pv 2) pa_nil)) pa_nil))) pa_nil))))) pss_nil) (pss_cons (ps_if (pt_cmpR op_ltP (pv 4) pe_int (nomark _)) (pss_cons (ps_set (i := 5) sc_L_odd_row.nd rfl (Or.inr rfl) (pe_f (ok_L_pick (K := K) T) (hr.mono (by decide)) pass0 (pa_cons (pv 0) (pa_cons (pe_callB (cLen K) (by rfl) T.b_len (by decide +kernel) (pa_cons (pv 1) pa_nil)) pa_nil)))) (pss_cons (ps_setLc (i := 6) (own := [("_law_other", 7)]) (g := gName 7) (by rfl) sc_L_odd_row.nd rfl rfl (sw_true rfl rfl rfl (by decide +kernel)) (pi_range1 rfl T.b_range (pa_cons (pe_callB (cLen K) (by rfl) T.b_len (by decide +kernel) (pa_cons (pv 2) pa_nil)) pa_nil)) (blkOk_by (own := [("_law_other", 7)]) (N := ["_law_draw_here", "_law_one", "_law_two_here", "_law_pair", "_law_kind", "_law_state", "_law_found", "_law_other"]) (sc := (defScope s_L_odd_row)) (by decide +kernel)) (fun _ _ _ _ _ => (pg_name (i := 7) sc_L_odd_row.nd rfl (Or.inl rfl))) (fun _ _ _ _ _ => (pts_one (pt_cmpR (opEq K hr.units) (pe_ix (ixK K) (pe_ix (ixK K) (pv 2) (pv 7) (fun _ _ => rfl)) pe_int (fun _ _ => rfl)) (pe_ix (ixK K) (pe_ix (ixK K) (pv 1) (pv 5) (fun _ _ => rfl)) pe_int (fun _ _ => rfl)) (nomark _)))) (fun _ _ _ _ _ => (pv 7))) (pss_cons (ps_if (pw_and (pt_cmpR (opNe K hr.units) (pe_ix (ixK K) (pe_ix (ixK K) (pv 1) (pv 5) (fun _ _ => rfl)) pe_int (fun _ _ => rfl)) (pe_S []) (nomark _)) (pw_and1 (ptTruth K (pv 6) (fun _ => rfl)))).pt (pss_one (ps_ret (pe_lst (pa_cons (pv 5) (pa_cons (pe_ix (ixK K) (pv 6) (pe_f (ok_L_pick (K := K) T) (hr.mono (by decide)) pass0 (pa_cons (pv 0) (pa_cons (pe_callB (cLen K) (by rfl) T.b_len (by decide +kernel) (pa_cons (pv 6) pa_nil)) pa_nil))) (fun _ _ => rfl)) pa_nil))))) pss_nil) (pss_one (ps_ret (pe_tup (pa_cons (pv 5) (pa_cons (pe_ix (ixK K) (pv 3) pe_int (fun _ _ => rfl)) pa_nil)))))))) pss_nil) (pss_cons (ps_if (pt_cmpR (opEq K hr.units) (pv 4) pe_int (nomark _)) (pss_one (ps_ret (pe_ix (ixK K) (pe_lst (pa_cons (pe_tup (pa_cons (pe_callTy Fg.cBoo (by rfl) T.b_bool (by decide +kernel) (pa_cons (pe_ix (ixK K) (pv 3) pe_int (fun _ _ => rfl)) pa_nil)) (pa_cons (pe_ix (ixK K) (pv 3) pe_int (fun _ _ => rfl)) pa_nil))) (pa_cons (pe_tup (pa_cons (pe_ix (ixK K) (pv 3) pe_int (fun _ _ => rfl)) (pa_cons (pe_callTy Fg.cBoo (by rfl) T.b_bool (by decide +kernel) (pa_cons (pe_ix (ixK K) (pv 3) pe_int (fun _ _ => rfl)) pa_nil)) pa_nil))) pa_nil))) (pe_f (ok_L_pick (K := K) T) (hr.mono (by decide)) pass0 (pa_cons (pv 0) (pa_cons pe_int pa_nil))) (fun _ _ => rfl)))) pss_nil) (pss_cons (ps_if (pt_cmpR (opEq K hr.units) (pv 4) pe_int (nomark _)) (pss_one (ps_ret (pe_ix (ixK K) (pe_lst (pa_cons (pe_tup (pa_cons (pe_callB (cLen K) (by rfl) T.b_len (by decide +kernel) (pa_cons (pv 1) pa_nil)) (pa_cons (pe_ix (ixK K) (pv 3) pe_int (fun _ _ => rfl)) pa_nil))) (pa_cons (pe_tup (pa_cons (pe_ix (ixK K) (pv 3) pe_int (fun _ _ => rfl)) (pa_cons (pe_callB (cLen K) (by rfl) T.b_len (by decide +kernel) (pa_cons (pv 2) pa_nil)) pa_nil))) (pa_cons (pe_tup (pa_cons (pe_un un_neg pe_int) (pa_cons (pe_ix (ixK K) (pv 3) pe_int (fun _ _ => rfl)) pa_nil))) (pa_cons (pe_tup (pa_cons (pe_ix (ixK K) (pv 3) pe_int (fun _ _ => rfl)) (pa_cons (pe_un un_neg pe_int) pa_nil))) pa_nil))))) (pe_f (ok_L_pick (K := K) T) (hr.mono (by decide)) pass0 (pa_cons (pv 0) (pa_cons pe_int pa_nil))) (fun _ _ => rfl)))) pss_nil) (pss_one (ps_ret (pe_ix (ixK K) (pe_lst (pa_cons pe_non (pa_cons (pe_lst pa_nil) (pa_cons (pe_tup (pa_cons (pe_ix (ixK K) (pv 3) pe_int (fun _ _ => rfl)) pa_nil)) (pa_cons (pe_tup (pa_cons (pe_ix (ixK K) (pv 3) pe_int (fun _ _ => rfl)) (pa_cons (pe_ix (ixK K) (pv 3) pe_int (fun _ _ => rfl)) (pa_cons pe_int pa_nil)))) (pa_cons (pe_S [48, 48]) (pa_cons pe_int (pa_cons (pe_lst (pa_cons (pe_lst (pa_cons pe_int (pa_cons pe_int pa_nil))) pa_nil)) (pa_cons (pe_tup (pa_cons pe_non (pa_cons pe_int pa_nil))) (pa_cons (pe_tup (pa_cons (pe_S [48]) (pa_cons (pe_S [48]) pa_nil))) pa_nil)))))))))) (pe_f (ok_L_pick (K := K) T) (hr.mono (by decide)) pass0 (pa_cons (pv 0) (pa_cons pe_int pa_nil))) (fun _ _ => rfl))))))))), ?_⟩
  show (_ : TS) { nx := fun _ H' => Q .non H', rt := Q } [some x, some y, some z, some u, none, none, none, none] H
  obtain ⟨H0, d, f, r1, r2, a, R1, R2, p, rfl, rfl, rfl, rfl, dr, l1, l2, g1, g2, ha, hp1, hp2, q⟩ := h
  have o1 := g1.one
  have o2 := g2.one
  have m1 := g1.most
  have m2 := g2.most
  have px : ∀ {G : Hp} {R : VK}, Same H0 G → R (.int (p.1 : Int)) G → ixP K (.ref a) (.int 0) G R := fun s k => i_ix2 (v := .int (p.1 : Int)) (by rcases ha with h | h; exact .inl (s _ _ h); exact .inr (s _ _ h)) rfl k
  have py : ∀ {G : Hp} {R : VK}, Same H0 G → R (.int (p.2 : Int)) G → ixP K (.ref a) (.int 1) G R := fun s k => i_ix2 (v := .int (p.2 : Int)) (by rcases ha with h | h; exact .inl (s _ _ h); exact .inr (s _ _ h)) rfl k
  have n1 : ((p.1 : Int)).natAbs < 10 ^ 40 := natS (by omega)
  have n2 : ((p.2 : Int)).natAbs < 10 ^ 40 := natS (by omega)
  have len : ∀ {r : Addr} {R : Rws} {G : Hp} {Rv : VK}, LA H0 r R → Same H0 G → Rv (.int (R.length : Int)) G → rLenP K [.ref r] G Rv := fun l s k => by
    obtain ⟨xs, hx, xl, _⟩ := l
    exact i_len_lst (.inl (.inl (s _ _ hx))) (by rw [xl]; exact k)
  walk_at "go"
  refine pick2 dr (by decide) fun kd H1 d1 bk => ?_
  clear dr
  walk_at "go"
  refine i_dec (fun e => ?_) (fun e => ?_)
  · walk_at "go"
    refine len l1 d1.1 ?_
    walk_at "go"
    refine pick2 d1 (by omega) fun i H2 d2 bi => ?_
    obtain ⟨i, rfl, hi⟩ := to_nat bi o1
    walk_at "go"
    refine len l2 d2.1 ?_
    walk_at "go"
    refine pick2 d2 (by omega) fun j H3 d3 bj => ?_
    obtain ⟨j, rfl, hj⟩ := to_nat bj o2
    walk_at "go"
    refine i_new (by show 2 ≤ 100000; omega) fun t nt => ?_
    exact q _ _ _ _ (same_upd (d3.free nt)) (d3.new nt) (at_two upd_same (.int _) (.int _)) (od_pair (natS (by omega)) (natS (by omega))).1
  walk_at "go"
  refine i_dec (fun e => ?_) (fun e => ?_)
  · walk_at "go"
    refine len l1 d1.1 ?_
    walk_at "go"
    refine pick2 d1 (by omega) fun i H2 d2 bi => ?_
    obtain ⟨i, rfl, hi⟩ := to_nat bi o1
    walk_at "go"
    refine c_rng1 R2.length (fun R k => by walk_at "go"; exact len l2 d2.1 (by walk_at "go"; exact k)) (by omega) (fun j => decide (wd R2 j = wd R1 i)) (fun j => .int (j : Int)) (fun _ => rfl) (fun j G hj s QB k => ?_) (fun j G hj s _ QV k => ?_) (fun Dl G nD s eD => ?_)
    · walk_at "n"
      walk_at "go"
      refine i_la (l2.same (d2.1.trans s)) hj fun a2 b2 ha2 hb2 => ?_
      walk_at "go"
      refine i_la (l1.same (d2.1.trans s)) hi fun a1 b1 ha1 hb1 => ?_
      walk_at "go"
      exact k G (Same.refl _)
    · walk_at "n"
      walk_at "go"
      exact k G (Same.refl _)
    have d3 := (d2.new (o := .lst (kept (fun j => decide (wd R2 j = wd R1 i)) (fun j => V.int (j : Int)) R2.length)) nD).same (same_got s eD)
    have sA := same_upd (o := HO.lst (kept (fun j => decide (wd R2 j = wd R1 i)) (fun j => V.int (j : Int)) R2.length)) (d2.free nD)
    generalize hA1 : upd H0 Dl (.lst (kept (fun j => decide (wd R2 j = wd R1 i)) (fun j => V.int (j : Int)) R2.length)) = A1 at *
    walk_at "go"
    have sG := d2.1.trans s
    refine i_la (l1.same sG) hi fun a1 b1 ha1 hb1 => ?_
    walk_at "go"
    refine i_decN (fun e1 => ?_) (fun e1 => ?_)
    · walk_at "go"
      refine i_truL eD ?_
      cases hkp : kept (fun j => decide (wd R2 j = wd R1 i)) (fun j => V.int (j : Int)) R2.length with
      | nil =>
        rw [if_neg (by decide)]
        walk_at "go"
        refine py sG ?_
        walk_at "go"
        refine i_new (by show 2 ≤ 100000; omega) fun t nt => ?_
        exact q _ _ _ _ (sA.trans (same_upd (d3.free nt))) (d3.new nt) (at_two upd_same (.int _) (.int _)) (od_pair (natS (by omega)) n2).1
      | cons w0 ws =>
        rw [if_pos (by simp)]
        have kl := kept_len (fun j => decide (wd R2 j = wd R1 i)) (fun j => V.int (j : Int)) R2.length
        rw [hkp] at kl eD
        have ko : ∀ {m : Nat} {v : V}, (w0 :: ws)[m]? = some v → ∃ j : Nat, j < R2.length ∧ v = .int (j : Int) := fun h => kept_int (by rw [hkp]; exact h)
        walk_at "go"
        refine i_len_lst (.inl (.inl eD)) ?_
        walk_at "go"
        rw [hkp] at hA1
        have hDA : A1 Dl = some (.lst (w0 :: ws)) := by rw [← hA1]; exact upd_same
        refine pick2 d3 (by omega) fun n G2 d4 bn => ?_
        obtain ⟨n, rfl, hn⟩ := to_nat bn (by simp)
        have hv : (w0 :: ws)[n]? = some (w0 :: ws)[n] := List.getElem?_eq_getElem hn
        obtain ⟨j, hj, ej⟩ := ko hv
        refine i_ix_lst (.inl (.inl (d4.old hDA))) (atI_nat hv) ?_
        rw [ej]
        walk_at "go"
        refine i_new (by show 2 ≤ 100000; omega) fun t nt => ?_
        exact q _ _ _ _ (sA.trans (same_upd (d4.free nt))) (d4.new nt) (at_twoL upd_same (.int _) (.int _)) (od_pair (natS (by omega)) (natS (by omega))).2
    · walk_at "go"
      refine py sG ?_
      walk_at "go"
      refine i_new (by show 2 ≤ 100000; omega) fun t nt => ?_
      exact q _ _ _ _ (sA.trans (same_upd (d3.free nt))) (d3.new nt) (at_two upd_same (.int _) (.int _)) (od_pair (natS (by omega)) n2).1
  walk_at "go"
  refine i_dec (fun e => ?_) (fun e => ?_)
  · walk_at "go"
    refine px d1.1 ?_
    walk_at "go"
    refine i_booI ?_
    walk_at "go"
    refine py d1.1 ?_
    walk_at "go"
    refine i_new (by show 2 ≤ 100000; omega) fun t1 nt1 => ?_
    walk_at "go"
    obtain ⟨A1, s1, e1, d2⟩ := d1.step (.tup [.bl ((p.1 : Int) != 0), .int (p.2 : Int)]) nt1
    have sH1 := s1
    refine px (s1.trans d2.1) ?_
    walk_at "go"
    refine py (s1.trans d2.1) ?_
    walk_at "go"
    refine i_booI ?_
    walk_at "go"
    refine i_new (by show 2 ≤ 100000; omega) fun t2 nt2 => ?_
    obtain ⟨A2, s2, e2, d3⟩ := d2.step (.tup [.int (p.1 : Int), .bl ((p.2 : Int) != 0)]) nt2
    walk_at "go"
    refine i_new (by show 2 ≤ 100000; omega) fun L nL => ?_
    have al : AtAll A2 [.ref t1, .ref t2] [.tuple [.bool ((p.1 : Int) != 0), .int (p.2 : Int)], .tuple [.int (p.1 : Int), .bool ((p.2 : Int) != 0)]] := .cons (at_two (s2 _ _ e1) (.bl _) (.int _)) (.one (at_two e2 (.int _) (.bl _)))
    have nA := d3.free nL
    have d4 := d3.new (o := .lst [.ref t1, .ref t2]) nL
    walk_at "go"
    refine pick2 d4 (by decide) fun n G2 d5 bn => ?_
    obtain ⟨v, e', ev, ae, me⟩ := menu_at (n := n) al bn (by show 1 ≤ 2; decide)
    refine i_ix_lst (.inl (.inl (d5.old upd_same))) ev ?_
    walk_at "go"
    refine q _ _ _ e' ((s1.trans s2).trans (same_upd nA)) d5 (ae.same (same_upd nA)) ?_
    rcases List.mem_cons.mp me with rfl | me
    · exact (od_two (Rp.bool _) (Rp.int n2) rfl rfl (Nat.zero_le _) (Nat.zero_le _)).1
    · rw [List.mem_singleton.mp me]
      exact (od_two (Rp.int n1) (Rp.bool _) rfl rfl (Nat.zero_le _) (Nat.zero_le _)).1
  walk_at "go"
  refine i_dec (fun e => ?_) (fun e => ?_)
  · walk_at "go"
    refine len l1 d1.1 ?_
    walk_at "go"
    refine py d1.1 ?_
    walk_at "go"
    refine i_new (by show 2 ≤ 100000; omega) fun t1 nt1 => ?_
    obtain ⟨A1, s1, e1, d2⟩ := d1.step (.tup [.int (R1.length : Int), .int (p.2 : Int)]) nt1
    walk_at "go"
    refine px (s1.trans d2.1) ?_
    walk_at "go"
    refine len l2 (s1.trans d2.1) ?_
    walk_at "go"
    refine i_new (by show 2 ≤ 100000; omega) fun t2 nt2 => ?_
    obtain ⟨A2, s2, e2, d3⟩ := d2.step (.tup [.int (p.1 : Int), .int (R2.length : Int)]) nt2
    have s12 := s1.trans s2
    walk_at "go"
    refine py (s12.trans d3.1) ?_
    walk_at "go"
    refine i_new (by show 2 ≤ 100000; omega) fun t3 nt3 => ?_
    obtain ⟨A3, s3, e3, d4⟩ := d3.step (.tup [.int (-1), .int (p.2 : Int)]) nt3
    have s13 := s12.trans s3
    walk_at "go"
    refine px (s13.trans d4.1) ?_
    walk_at "go"
    refine i_new (by show 2 ≤ 100000; omega) fun t4 nt4 => ?_
    obtain ⟨A4, s4, e4, d5⟩ := d4.step (.tup [.int (p.1 : Int), .int (-1)]) nt4
    have s14 := s13.trans s4
    have b1 : ((-1 : Int)).natAbs < 10 ^ 40 := by decide
    have b2 : ((R1.length : Int)).natAbs < 10 ^ 40 := natS (by omega)
    have b3 : ((R2.length : Int)).natAbs < 10 ^ 40 := natS (by omega)
    walk_at "go"
    refine i_new (by show 4 ≤ 100000; omega) fun L nL => ?_
    have al : AtAll A4 [.ref t1, .ref t2, .ref t3, .ref t4] [.tuple [.int (R1.length : Int), .int (p.2 : Int)], .tuple [.int (p.1 : Int), .int (R2.length : Int)], .tuple [.int (-1), .int (p.2 : Int)], .tuple [.int (p.1 : Int), .int (-1)]] :=
      .cons (at_two (s4 _ _ (s3 _ _ (s2 _ _ e1))) (.int _) (.int _)) (.cons (at_two (s4 _ _ (s3 _ _ e2)) (.int _) (.int _)) (.cons (at_two (s4 _ _ e3) (.int _) (.int _)) (.one (at_two e4 (.int _) (.int _)))))
    have nA := d5.free nL
    have d6 := d5.new (o := .lst [.ref t1, .ref t2, .ref t3, .ref t4]) nL
    walk_at "go"
    refine pick2 d6 (by decide) fun n G2 d7 bn => ?_
    obtain ⟨v, e', ev, ae, me⟩ := menu_at (n := n) al bn (by show 1 ≤ 4; decide)
    refine i_ix_lst (.inl (.inl (d7.old upd_same))) ev ?_
    walk_at "go"
    refine q _ _ _ e' (s14.trans (same_upd nA)) d7 (ae.same (same_upd nA)) ?_
    simp only [List.mem_cons, List.not_mem_nil, or_false] at me
    rcases me with rfl | rfl | rfl | rfl
    · exact (od_pair b2 n2).1
    · exact (od_pair n1 b3).1
    · exact (od_pair b1 n2).1
    · exact (od_pair n1 b1).1
  walk_at "go"
  refine i_new (by show 0 ≤ 100000; omega) fun t1 nt1 => ?_
  obtain ⟨A1, s1, e1, d2⟩ := d1.step (.lst []) nt1
  walk_at "go"
  refine px (s1.trans d2.1) ?_
  walk_at "go"
  refine i_new (by show 1 ≤ 100000; omega) fun t2 nt2 => ?_
  obtain ⟨A2, s2, e2, d3⟩ := d2.step (.tup [.int (p.1 : Int)]) nt2
  have s12 := s1.trans s2
  walk_at "go"
  refine px (s12.trans d3.1) ?_
  walk_at "go"
  refine py (s12.trans d3.1) ?_
  walk_at "go"
  refine i_new (by show 3 ≤ 100000; omega) fun t3 nt3 => ?_
  obtain ⟨A3, s3, e3, d4⟩ := d3.step (.tup [.int (p.1 : Int), .int (p.2 : Int), .int 0]) nt3
  walk_at "go"
  refine i_new (by show 2 ≤ 100000; omega) fun t4 nt4 => ?_
  obtain ⟨A4, s4, e4, d5⟩ := d4.step (.lst [.int 0, .int 0]) nt4
  walk_at "go"
  refine i_new (by show 1 ≤ 100000; omega) fun t5 nt5 => ?_
  obtain ⟨A5, s5, e5, d6⟩ := d5.step (.lst [.ref t4]) nt5
  walk_at "go"
  refine i_new (by show 2 ≤ 100000; omega) fun t6 nt6 => ?_
  obtain ⟨A6, s6, e6, d7⟩ := d6.step (.tup [.non, .int 0]) nt6
  walk_at "go"
  refine i_new (by show 2 ≤ 100000; omega) fun t7 nt7 => ?_
  obtain ⟨A7, s7, e7, d8⟩ := d7.step (.tup [S [48], S [48]]) nt7
  walk_at "go"
  refine i_new (by show 9 ≤ 100000; omega) fun L nL => ?_
  have t37 : Same A3 A7 := ((s4.trans s5).trans s6).trans s7
  have t27 := s3.trans t37
  have t17 := s2.trans t27
  have al : AtAll A7 [.non, .ref t1, .ref t2, .ref t3, S [48, 48], .int 0, .ref t5, .ref t6, .ref t7] [.none, .list [], .tuple [.int (p.1 : Int)], .tuple [.int (p.1 : Int), .int (p.2 : Int), .int 0], dS [48, 48], .int 0, .list [.list [.int 0, .int 0]], .tuple [.none, .int 0], .tuple [dS [48], dS [48]]] :=
    .cons .non (.cons (At.mkLst (t17 _ _ e1) .nil (Nat.zero_le _)) (.cons (At.mkTup (t27 _ _ e2) (.one (.int _)) (by show 1 ≤ 10000; decide)) (.cons (At.mkTup (t37 _ _ e3) (.cons (.int _) (.cons (.int _) (.one (.int _)))) (by show 3 ≤ 10000; decide))
      (.cons (.str _ (by decide)) (.cons (.int _) (.cons (At.mkLst (s7 _ _ (s6 _ _ e5)) (.one (at_twoL (s7 _ _ (s6 _ _ (s5 _ _ e4))) (.int _) (.int _))) (by show 1 ≤ 10000; decide)) (.cons (at_two (s7 _ _ e6) .non (.int _)) (.one (at_two e7 (.str _ (by decide)) (.str _ (by decide))))))))))) 
  have nA := d8.free nL
  have d9 := d8.new (o := .lst [.non, .ref t1, .ref t2, .ref t3, S [48, 48], .int 0, .ref t5, .ref t6, .ref t7]) nL
  walk_at "go"
  refine pick2 d9 (by decide) fun n G2 da bn => ?_
  obtain ⟨v, e', ev, ae, me⟩ := menu_at (n := n) al bn (by show 1 ≤ 9; decide)
  refine i_ix_lst (.inl (.inl (da.old upd_same))) ev ?_
  walk_at "go"
  refine q _ _ _ e' ((s1.trans t17).trans (same_upd nA)) da (ae.same (same_upd nA)) ?_
  have r0 : ∀ {m : Nat}, Rp m (.int 0) := Rp.int (by decide)
  have rs : ∀ {m : Nat}, 2 ≤ m → Rp m (dS [48, 48]) := fun h => Rp.str (m := 2) (by decide) (by decide) |>.mono h
  simp only [List.mem_cons, List.not_mem_nil, or_false] at me
  rcases me with rfl | rfl | rfl | rfl | rfl | rfl | rfl | rfl | rfl
  · exact ⟨rfl, Nat.zero_le _, Rp.non⟩
  · exact ⟨rfl, by decide, (Rp.list (m := 0) (ds := []) (fun d hd => absurd hd (by simp))).mono (by decide)⟩
  · exact ⟨rfl, by show 1 ≤ 3; decide, (Rp.tuple (m := 0) (fun d hd => by rw [List.mem_singleton.mp hd]; exact Rp.int n1)).mono (by show (0 + 1) * 1 ≤ 30; decide)⟩
  · refine ⟨rfl, by show 1 ≤ 3; decide, (Rp.tuple (m := 0) (fun d hd => ?_)).mono (by show (0 + 1) * 3 ≤ 30; decide)⟩
    simp only [List.mem_cons, List.not_mem_nil, or_false] at hd
    rcases hd with rfl | rfl | rfl
    · exact Rp.int n1
    · exact Rp.int n2
    · exact r0
  · exact ⟨rfl, Nat.zero_le _, rs (by decide)⟩
  · exact od_int (by decide)
  · refine ⟨rfl, by decide, (Rp.list (m := 2) (fun d hd => ?_)).mono (by show (2 + 1) * 1 ≤ 30; decide)⟩
    rw [List.mem_singleton.mp hd]
    refine (Rp.list (m := 0) (fun d hd => ?_)).mono (by show (0 + 1) * 2 ≤ 2; decide)
    simp only [List.mem_cons, List.not_mem_nil, or_false] at hd
    rcases hd with rfl | rfl <;> exact r0
  · exact (od_two Rp.non r0 rfl rfl (Nat.zero_le _) (Nat.zero_le _)).1
  · exact (od_two (Rp.str (by decide) (by decide)) (Rp.str (by decide) (by decide)) rfl rfl (Nat.zero_le _) (Nat.zero_le _)).1
end
end K47
namespace K47
open PySem PySem.Spec PyProof.Rows L2 Fg
local macro_rules | `(tactic| walk_at "sq") => `(tactic| first
  | assumption
  | exact .inl (.inl (by assumption))
  | exact .inl (.inl upd_same))
local macro_rules | `(tactic| walk_at "st") => `(tactic| first
  | assumption
  | exact .inl (.inl (by assumption))
  | exact .inl (.inl upd_same))
local macro_rules | `(tactic| walk_at "o") => `(tactic| first
  | omega
  | assumption
  | (simp only [List.length_append, List.length_take, List.length_drop, List.length_cons, List.length_nil, List.length_singleton, List.length_map, List.length_range, Int.toNat_natCast] ; omega))
local macro_rules | `(tactic| walk_at "s") => `(tactic| first
  | (with_reducible refine i_seq ?_)
  | (with_reducible refine i_asg ?_)
  | ((with_reducible refine' i_var ?h1 ?_); (case h1 => rfl))
  | (with_reducible refine i_c ?_)
  | ((with_reducible refine' i_gname' ?h1 ?_); (case h1 => (simp only [List.set_cons_zero, List.set_cons_succ]; rfl)))
  | (with_reducible refine i_op ?_)
  | (with_reducible refine i_ifS ?_)
  | (with_reducible refine i_for ?_)
  | (with_reducible refine i_test ?_)
  | (with_reducible refine i_B ?_)
  | (with_reducible refine i_exbl ?_)
  | (with_reducible refine i_exint ?_)
  | (with_reducible refine i_cb ?_)
  | (with_reducible refine i_nil ?_)
  | (with_reducible refine i_cons ?_)
  | (with_reducible refine i_ret ?_)
  | (with_reducible refine i_sl ?_)
  | (with_reducible refine i_nopart ?_)
  | (with_reducible refine i_part ?_)
  | (with_reducible refine i_add_int ?_)
  | (with_reducible refine i_sub ?_)
  | (with_reducible refine i_lt ?_)
  | ((with_reducible refine' i_mod ?h1 ?_); (case h1 => walk_at "o"))
  | ((with_reducible refine' i_fdiv ?h1 ?_); (case h1 => (refine cdiv_small ?_ ?_ <;> walk_at "o")))
  | ((with_reducible refine' i_sl_to ?h1 ?h2 ?_); (case h1 => walk_at "o"); (case h2 => walk_at "o"))
  | ((with_reducible refine' i_sl_from ?h1 ?h2 ?_); (case h1 => walk_at "o"); (case h2 => walk_at "o"))
  | ((with_reducible refine' i_add_str ?h1 ?_); (case h1 => walk_at "o"))
  | ((with_reducible refine' i_mul_int ?h1 ?_); (case h1 => first | (refine mul_small ?_ ?_ <;> walk_at "o") | (refine mul_smallR ?_ ?_ <;> walk_at "o")))
  | (with_reducible refine i_le ?_)
  | (with_reducible refine i_gt ?_)
  | (with_reducible refine i_ge ?_)
  | (with_reducible refine i_eq_int ?_)
  | (with_reducible refine i_eq_str ?_)
  | (with_reducible refine i_ne_int ?_)
  | (with_reducible refine i_ne_str ?_)
  | (with_reducible refine i_eq_bl ?_)
  | (with_reducible refine i_ne_bl ?_)
  | (with_reducible refine i_in_sg ?_)
  | (with_reducible refine i_notIn_sg ?_)
  | (with_reducible refine i_call ?_)
  | (with_reducible refine i_callS ?_)
  | (with_reducible refine i_sp1 ?_)
  | (with_reducible refine i_sp2 ?_)
  | (with_reducible refine i_sp3 ?_)
  | (with_reducible refine i_sp4 ?_)
  | (with_reducible refine i_sp1' ?_)
  | (with_reducible refine i_sp2' ?_)
  | (with_reducible refine i_sp3' ?_)
  | ((with_reducible refine' i_ix_lst ?h1 ?h2 ?_); (case h1 => walk_at "sq"); (case h2 => first | exact atI_nat rfl | rfl))
  | ((with_reducible refine' i_ix_tup ?h1 ?h2 ?_); (case h1 => walk_at "st"); (case h2 => first | exact atI_nat rfl | rfl))
  | (with_reducible refine i_gsub ?_)
  | (with_reducible refine i_par ?_)
  | (with_reducible refine i_lstRg1 ?_)
  | (with_reducible refine i_app ?_)
  | (with_reducible refine i_par2 ?_)
  | ((with_reducible refine' i_aug ?h1 ?_); (case h1 => rfl))
  | (with_reducible refine i_ipI ?_)
  | ((with_reducible refine' i_gtup2 ?h1 ?_); (case h1 => walk_at "st"))
  | (with_reducible refine i_int_bl ?_)
  | (with_reducible refine i_raise ?_)
  | (with_reducible refine i_mkE ?_)
  | (with_reducible refine i_ex1 ?_)
  | (with_reducible refine i_and ?_)
  | (with_reducible refine i_or ?_)
  | (with_reducible refine i_not ?_)
  | (with_reducible refine i_tt ?_)
  | (with_reducible refine i_ff ?_)
  | (with_reducible refine i_nott ?_)
  | (with_reducible refine i_notf ?_)
  | (with_reducible refine i_andV ?_)
  | (with_reducible refine i_orV ?_)
  | (with_reducible refine i_notV ?_)
  | (with_reducible refine i_ifE ?_)
  | (with_reducible refine i_tup ?_)
  | (with_reducible refine i_lst ?_)
  | (with_reducible refine i_un ?_)
  | (with_reducible refine i_neg ?_)
  | (with_reducible refine i_chain ?_)
  | (with_reducible refine i_next ?_)
  | (with_reducible refine i_retN ?_)
  | (with_reducible refine i_drop ?_)
  | (with_reducible refine i_int_int ?_)
  | (with_reducible refine i_abs ?_)
  | (with_reducible refine i_m1c ?_)
  | (with_reducible refine i_is_non ?_)
  | (with_reducible refine i_is_int ?_)
  | (with_reducible refine i_is_bl ?_)
  | (with_reducible refine i_isn_bl ?_)
  | (with_reducible refine i_is_str ?_)
  | (with_reducible refine i_is_ref ?_)
  | (with_reducible refine i_isn_non ?_)
  | (with_reducible refine i_isn_int ?_)
  | (with_reducible refine i_isn_str ?_)
  | (with_reducible refine i_isn_ref ?_)
  | (with_reducible refine i_len_str ?h1 ?_; (case h1 => walk_at "o"))
  | (with_reducible refine i_callD ?_)
  | (with_reducible refine i_spD2 ?_)
  | (with_reducible refine i_spM1 ?_)
  | (with_reducible refine i_spM2 ?_)
  | (with_reducible refine i_spM3 ?_)
  | (with_reducible refine i_spM4 ?_)
  | (with_reducible refine i_spM3d ?_)
  | (with_reducible refine i_tfld ?_)
  | (with_reducible refine i_sfld ?_)
  | (with_reducible refine i_meth ?_)
  | (with_reducible refine i_make ?_)
  | (with_reducible refine i_spl ?_)
  | (with_reducible refine i_mkE2 ?_)
  | (with_reducible refine i_ex2 ?_)
  | (with_reducible refine i_dget ?_)
  | (with_reducible refine i_tru ?_)
  | (with_reducible refine i_dput ?_)
  | (with_reducible refine i_dnotin ?_)
  | (with_reducible refine i_din ?_)
  | (with_reducible refine i_rev ?_)
  | (with_reducible refine i_isi_int_int ?_) | (with_reducible refine i_isi_int_bool ?_) | (with_reducible refine i_isi_int_str ?_) | (with_reducible refine i_isi_int_tuple ?_) | (with_reducible refine i_isi_int_list ?_)
  | (with_reducible refine i_isi_bl_int ?_) | (with_reducible refine i_isi_bl_bool ?_) | (with_reducible refine i_isi_bl_str ?_) | (with_reducible refine i_isi_bl_tuple ?_) | (with_reducible refine i_isi_bl_list ?_)
  | (with_reducible refine i_isi_str_int ?_) | (with_reducible refine i_isi_str_bool ?_) | (with_reducible refine i_isi_str_str ?_) | (with_reducible refine i_isi_str_tuple ?_) | (with_reducible refine i_isi_str_list ?_)
  | (with_reducible refine i_isi_non_int ?_) | (with_reducible refine i_isi_non_bool ?_) | (with_reducible refine i_isi_non_str ?_) | (with_reducible refine i_isi_non_tuple ?_) | (with_reducible refine i_isi_non_list ?_))
local macro_rules | `(tactic| walk_at "go") => `(tactic| (repeat' (walk_at "s")))
local macro_rules | `(tactic| walk_at "n") => `(tactic| simp only [wipe, List.map_cons, List.map_nil, List.set_cons_zero, List.set_cons_succ])
theorem cutV_fr {xs : List V} (k : Nat) : cutV xs (some (k : Int)) none = xs.drop k := by
  unfold cutV
  rw [HT.sIx_none, HT.sIx_nat]
  by_cases h : k ≤ xs.length
  · rw [Nat.min_eq_left h, List.take_of_length_le (by rw [List.length_drop]; exact Nat.le_refl _)]
  · rw [Nat.min_eq_right (by omega), List.drop_length, List.drop_of_length_le (by omega)]; simp
theorem AtAll.rev {H : Hp} : ∀ {vs : List V} {ds : List PyData}, AtAll H vs ds → AtAll H vs.reverse ds.reverse
  | _, _, .nil => .nil
  | _, _, .cons h r => by
    rw [List.reverse_cons, List.reverse_cons]
    exact (AtAll.rev r).app (.one h)
section
variable {P : Program} {w : World} {K : PySem.W.Frag} {mg : Str → Option Value} {base : Heap} {C_GlimError C_BadRow C_BadReader C_Reader : Addr}
def p_L_spoilt (K : PySem.W.Frag) : P4 := fun x y z u H Q _ => ∃ H0 d f r1 r2 tb R1 R2 ds, x = .ref d.a ∧ y = .ref r1 ∧ z = .ref r2 ∧ u = .ref tb ∧ D2 K d f H0 H ∧ LA H0 r1 R1 ∧ LA H0 r2 R2 ∧ Good R1 ∧ Good R2 ∧ At H0 (.ref tb) (.list ds) ∧ (∀ e ∈ ds, OddE e) ∧ ds.length ≤ 1000 ∧
  ∀ A H' v es, Same H0 A → D2 K d f A H' → At A (.ref v) (.list es) → (∀ e ∈ es, OddE e) → es.length ≤ ds.length + 1 → Q (.ref v) H'
theorem ok_L_spoilt (T : Txt K mg C_GlimError C_BadRow C_BadReader C_Reader) : OK P w K mg base CX0 4 "_law_spoilt" ["_law_draw_here", "_law_one", "_law_two_here", "_law_table"] (sp4  (p_L_spoilt K)) := by
  refine OK.mk (k := 3) T.d_L_spoilt sc_L_spoilt len4 fun f cdv A outer s H vs Q E hr h => ?_
  obtain ⟨x, y, z, u, rfl, h⟩ := h
  refine ⟨_, (pss_cons (ps_if (pt_not (ptTruth K (pv 3) (fun _ => rfl))) (pss_one (ps_ret (pe_lst (pa_cons (pe_f (ok_L_odd_row (K := K) T) (hr.mono (by decide)) pass0 (pa_cons (pv 0) (pa_cons (pv 1) (pa_cons (pv 2) (pa_cons (pe_tup (pa_cons pe_int (pa_cons pe_int pa_nil))) pa_nil))))) pa_nil)))) pss_nil) (pss_cons (ps_set (i := 4) sc_L_spoilt.nd rfl (Or.inl rfl) (pe_f (ok_L_pick (K := K) T) (hr.mono (by decide)) pass0 (pa_cons (pv 0) (pa_cons (pe_callB (cLen K) (by rfl) T.b_len (by decide +kernel) (pa_cons (pv 3) pa_nil)) pa_nil)))) (pss_cons (ps_set (i := 5) sc_L_spoilt.nd rfl (Or.inl rfl) (pe_f (ok_L_pick (K := K) T) (hr.mono (by decide)) pass0 (pa_cons (pv 0) (pa_cons pe_int pa_nil)))) (pss_cons (ps_if (pt_cmpR op_ltP (pv 5) pe_int (nomark _)) (pss_one (ps_ret (pe_op (opAdd K) (pe_slice (slK K) (pv 3) po_none (po_some (pv 4))) (pe_slice (slK K) (pv 3) (po_some (pe_op (opAdd K) (pv 4) pe_int)) po_none)))) pss_nil) (pss_cons (ps_if (pt_cmpR (opEq K hr.units) (pv 5) pe_int (nomark _)) (pss_one (ps_ret (pe_op (opAdd K) (Fg.pe_rev K (pv 3) (po_some (pe_un un_neg pe_int))) (pe_lst (pa_cons (pe_ix (ixK K) (pv 3) (pv 4) (fun _ _ => rfl)) pa_nil))))) pss_nil) (pss_cons (ps_set (i := 6) sc_L_spoilt.nd rfl (Or.inl rfl) (pe_tup (pa_cons pe_int (pa_cons pe_int pa_nil)))) (Evl.pss_cut (ps_if (pt_val (pe_f (ok_L_is_pair (K := K) T) (hr.mono (by decide)) pass0 (pa_cons (pv 1) (pa_cons (pv 2) (pa_cons (pe_ix (ixK K) (pv 3) (pv 4) (fun _ _ => rfl)) pa_nil))))) (pss_one (ps_set (i := 6) sc_L_spoilt.nd rfl (Or.inl rfl) (pe_ix (ixK K) (pv 3) (pv 4) (fun _ _ => rfl)))) pss_nil) (pss_cons (ps_set (i := 7) sc_L_spoilt.nd rfl (Or.inl rfl) (pe_f (ok_L_odd_row (K := K) T) (hr.mono (by decide)) pass0 (pa_cons (pv 0) (pa_cons (pv 1) (pa_cons (pv 2) (pa_cons (pv 6) pa_nil)))))) (pss_cons (ps_if (pt_cmpR (opEq K hr.units) (pv 5) pe_int (nomark _)) (pss_one (ps_ret (pe_op (opAdd K) (pe_op (opAdd K) (pe_slice (slK K) (pv 3) po_none (po_some (pv 4))) (pe_lst (pa_cons (pv 7) pa_nil))) (pe_slice (slK K) (pv 3) (po_some (pe_op (opAdd K) (pv 4) pe_int)) po_none)))) pss_nil) (pss_one (ps_ret (pe_op (opAdd K) (pe_op (opAdd K) (pe_slice (slK K) (pv 3) po_none (po_some (pv 4))) (pe_lst (pa_cons (pv 7) pa_nil))) (pe_slice (slK K) (pv 3) (po_some (pv 4)) po_none))))))))))))), ?_⟩
  show (_ : TS) { nx := fun _ H' => Q .non H', rt := Q } [some x, some y, some z, some u, none, none, none, none] H
  obtain ⟨H0, d, f, r1, r2, tb, R1, R2, ds, rfl, rfl, rfl, rfl, dr, l1, l2, g1, g2, ht, hod, h1000, q⟩ := h
  obtain ⟨a, xs, ea, hx, _, al⟩ := ht.listed
  cases ea
  have ll := al.len
  walk_at "go"
  refine i_truL (dr.old hx) ?_
  cases ds with
  | nil =>
    cases al
    rw [if_pos (show (!!([] : List V).isEmpty) = true from rfl)]
    walk_at "go"
    refine i_new (by show 2 ≤ 100000; omega) fun t1 nt1 => ?_
    obtain ⟨A1, s1, e1, d1⟩ := dr.step (.tup [.int 0, .int 0]) nt1
    walk_at "go"
    refine ⟨A1, d, f, r1, r2, t1, R1, R2, (0, 0), rfl, rfl, rfl, rfl, d1, l1.same s1, l2.same s1, g1, g2, .inr e1, by decide, by decide, fun A2 H2 v e s2 d2 av oe => ?_⟩
    walk_at "go"
    refine i_new (by show 1 ≤ 100000; omega) fun t2 nt2 => ?_
    have nA := d2.free nt2
    exact q _ _ t2 [e] ((s1.trans s2).trans (same_upd nA)) (d2.new nt2) (At.mkLst upd_same (.one (av.same (same_upd nA))) (by show 1 ≤ 10000; decide)) (fun e' h => by rw [List.mem_singleton.mp h]; exact oe) (Nat.le_refl 1)
  | cons e0 er =>
  generalize hds : e0 :: er = ds at *
  have one : 1 ≤ ds.length := by rw [← hds]; simp
  rw [if_neg (by cases xs with
    | nil => rw [← ll] at one; exact absurd one (by decide)
    | cons _ _ => simp)]
  walk_at "go"
  refine i_len_lst (.inl (.inl (dr.old hx))) ?_
  walk_at "go"
  rw [ll]
  refine pick2 dr (by omega) fun n H1 d1 bn => ?_
  obtain ⟨n, rfl, hn⟩ := to_nat bn one
  have hlt : n < xs.length := by omega
  have hv : xs[n]? = some xs[n] := List.getElem?_eq_getElem hlt
  obtain ⟨en, hen, aen⟩ := al.get hv
  have men := List.mem_of_getElem? hen
  walk_at "go"
  refine pick2 d1 (by decide) fun kd H2 d2 bk => ?_
  clear dr d1
  have cut1 : ∀ {A G : Hp} {Rv : VK}, D2 K d f A G → Same H0 A → (∀ A2 p, Same A A2 → A2 p = some (.lst (xs.take n)) → D2 K d f A2 (upd G p (.lst (xs.take n))) → Rv (.ref p) (upd G p (.lst (xs.take n)))) → slP K (.ref tb) none (some (n : Int)) G Rv := fun dd s k =>
    i_slL (.inl (.inl (dd.old (s _ _ hx)))) fun p np => by
      rw [cutV_to]
      obtain ⟨A2, s2, e2, d2⟩ := dd.step (.lst (xs.take n)) np
      exact k A2 p s2 e2 d2
  have cut2 : ∀ {A G : Hp} {Rv : VK} (m : Nat), D2 K d f A G → Same H0 A → (∀ A2 p, Same A A2 → A2 p = some (.lst (xs.drop m)) → D2 K d f A2 (upd G p (.lst (xs.drop m))) → Rv (.ref p) (upd G p (.lst (xs.drop m)))) → slP K (.ref tb) (some (m : Int)) none G Rv := fun m dd s k =>
    i_slL (.inl (.inl (dd.old (s _ _ hx)))) fun p np => by
      rw [cutV_fr]
      obtain ⟨A2, s2, e2, d2⟩ := dd.step (.lst (xs.drop m)) np
      exact k A2 p s2 e2 d2
  have fin : ∀ {A G : Hp} {ys : List V} {es : List PyData}, D2 K d f A G → Same H0 A → AtAll A ys es → (∀ e ∈ es, OddE e) → es.length ≤ ds.length + 1 → ∀ p, G p = none → Q (.ref p) (upd G p (.lst ys)) := fun dd s al' ho hl p np =>
    q _ _ p _ (s.trans (same_upd (dd.free np))) (dd.new np) (At.mkLst upd_same (al'.same (same_upd (dd.free np))) (by omega)) ho hl
  have sn : (n : Int) + 1 = ((n + 1 : Nat) : Int) := rfl
  walk_at "go"
  refine i_dec (fun e => ?_) (fun e => ?_)
  · walk_at "go"
    refine cut1 d2 (Same.refl _) fun A1 p1 s1 e1 d3 => ?_
    walk_at "go"
    rw [sn]
    refine cut2 (n + 1) d3 s1 fun A2 p2 s2 e2 d4 => ?_
    walk_at "go"
    refine i_catL (d4.old (s2 _ _ e1)) (d4.old e2) (by rw [List.length_take, List.length_drop]; omega) (fin d4 (s1.trans s2) (((al.same (s1.trans s2)).take n).app ((al.same (s1.trans s2)).drop (n + 1))) (fun e h => ?_) (by rw [List.length_append, List.length_take, List.length_drop]; omega))
    rcases List.mem_append.mp h with h | h
    · exact hod e (List.mem_of_mem_take h)
    · exact hod e (List.mem_of_mem_drop h)
  walk_at "go"
  refine i_dec (fun e => ?_) (fun e => ?_)
  · walk_at "go"
    refine i_revL (.inl (.inl (d2.old hx))) fun p1 np1 => ?_
    obtain ⟨A1, s1, e1, d3⟩ := d2.step (.lst xs.reverse) np1
    walk_at "go"
    refine i_ix_lst (.inl (.inl (d3.old (s1 _ _ hx)))) (atI_nat hv) ?_
    walk_at "go"
    refine i_new (by show 1 ≤ 100000; omega) fun p2 np2 => ?_
    obtain ⟨A2, s2, e2, d4⟩ := d3.step (.lst [xs[n]]) np2
    walk_at "go"
    refine i_catL (d4.old (s2 _ _ e1)) (d4.old e2) (by rw [List.length_reverse]; show xs.length + 1 ≤ 100000; omega) (fin d4 (s1.trans s2) ((AtAll.rev (al.same (s1.trans s2))).app (.one (aen.same (s1.trans s2)))) (fun e h => ?_) (by rw [List.length_append, List.length_reverse]; exact Nat.le_refl _))
    rcases List.mem_append.mp h with h | h
    · exact hod e (List.mem_reverse.mp h)
    · rw [List.mem_singleton.mp h]; exact hod en men
  walk_at "go"
  refine i_new (by show 2 ≤ 100000; omega) fun t0 nt0 => ?_
  obtain ⟨A0, s0, e0', d3⟩ := d2.step (.tup [.int 0, .int 0]) nt0
  walk_at "go"
  refine i_cut (fun σ G => ∃ A nr, ∃ p : Nat × Nat, σ = [some (.ref d.a), some (.ref r1), some (.ref r2), some (.ref tb), some (.int (n : Int)), some (.int kd), some (.ref nr), none] ∧ Same H0 A ∧ D2 K d f A G ∧ (A nr = some (.lst [.int (p.1 : Int), .int (p.2 : Int)]) ∨ A nr = some (.tup [.int (p.1 : Int), .int (p.2 : Int)])) ∧ p.1 ≤ 1000 ∧ p.2 ≤ 1000) ?_ ?_
  · walk_at "go"
    refine i_ix_lst (.inl (.inl (d3.old (s0 _ _ hx)))) (atI_nat hv) ?_
    walk_at "go"
    refine ⟨r1, r2, R1, R2, en, rfl, rfl, (l1.same s0).same d3.1, (l2.same s0).same d3.1, (aen.same s0).same d3.1, fun G3 s3 => ?_⟩
    have d4 := d3.same s3
    refine ⟨_, rfl, ?_⟩
    cases ep : prD R1.length R2.length en with
    | none =>
      rw [Option.isSome_none]
      walk_at "go"
      exact ⟨A0, t0, (0, 0), rfl, s0, d4, .inr e0', by decide, by decide⟩
    | some p =>
      rw [Option.isSome_some]
      obtain ⟨b, eb, hb⟩ := prAt (aen.same s0) ep
      obtain ⟨i1, i2, _⟩ := prD_some ep
      have m1 := g1.most
      have m2 := g2.most
      walk_at "go"
      refine i_ix_lst (.inl (.inl (d4.old (s0 _ _ hx)))) (atI_nat hv) ?_
      rw [eb]
      walk_at "go"
      exact ⟨A0, b, p, rfl, s0, d4, hb, by omega, by omega⟩
  clear d2 d3 e0' s0
  rintro σ G ⟨A, nr, p, rfl, sA, d3, hp, hp1, hp2⟩
  walk_at "go"
  refine ⟨A, d, f, r1, r2, nr, R1, R2, p, rfl, rfl, rfl, rfl, d3, l1.same sA, l2.same sA, g1, g2, hp, hp1, hp2, fun A2 H3 v e s2 d4 av oe => ?_⟩
  have sA2 := sA.trans s2
  walk_at "go"
  refine i_dec (fun e3 => ?_) (fun e3 => ?_)
  · walk_at "go"
    refine cut1 d4 sA2 fun A3 p1 s3 e1 d5 => ?_
    walk_at "go"
    refine i_new (by show 1 ≤ 100000; omega) fun p2 np2 => ?_
    obtain ⟨A4, s4, e2, d6⟩ := d5.step (.lst [v]) np2
    walk_at "go"
    refine i_catL (d6.old (s4 _ _ e1)) (d6.old e2) (by rw [List.length_take]; show _ + 1 ≤ 100000; omega) fun p3 np3 => ?_
    obtain ⟨A5, s5, e3', d7⟩ := d6.step (.lst (xs.take n ++ [v])) np3
    walk_at "go"
    rw [sn]
    refine cut2 (n + 1) d7 (((sA2.trans s3).trans s4).trans s5) fun A6 p4 s6 e4 d8 => ?_
    have sT := (((sA2.trans s3).trans s4).trans s5).trans s6
    walk_at "go"
    refine i_catL (d8.old (s6 _ _ e3')) (d8.old e4) (by rw [List.length_append, List.length_take, List.length_drop, List.length_singleton]; omega) (fin d8 sT ((((al.same sT).take n).app (.one (av.same (((s3.trans s4).trans s5).trans s6)))).app ((al.same sT).drop (n + 1))) (fun e' h => ?_) (by rw [List.length_append, List.length_append, List.length_take, List.length_drop, List.length_singleton]; omega))
    rcases List.mem_append.mp h with h | h
    · rcases List.mem_append.mp h with h | h
      · exact hod e' (List.mem_of_mem_take h)
      · rw [List.mem_singleton.mp h]; exact oe
    · exact hod e' (List.mem_of_mem_drop h)
  · walk_at "go"
    refine cut1 d4 sA2 fun A3 p1 s3 e1 d5 => ?_
    walk_at "go"
    refine i_new (by show 1 ≤ 100000; omega) fun p2 np2 => ?_
    obtain ⟨A4, s4, e2, d6⟩ := d5.step (.lst [v]) np2
    walk_at "go"
    refine i_catL (d6.old (s4 _ _ e1)) (d6.old e2) (by rw [List.length_take]; show _ + 1 ≤ 100000; omega) fun p3 np3 => ?_
    obtain ⟨A5, s5, e3', d7⟩ := d6.step (.lst (xs.take n ++ [v])) np3
    walk_at "go"
    refine cut2 n d7 (((sA2.trans s3).trans s4).trans s5) fun A6 p4 s6 e4 d8 => ?_
    have sT := (((sA2.trans s3).trans s4).trans s5).trans s6
    walk_at "go"
    refine i_catL (d8.old (s6 _ _ e3')) (d8.old e4) (by rw [List.length_append, List.length_take, List.length_drop, List.length_singleton]; omega) (fin d8 sT ((((al.same sT).take n).app (.one (av.same (((s3.trans s4).trans s5).trans s6)))).app ((al.same sT).drop n)) (fun e' h => ?_) (by rw [List.length_append, List.length_append, List.length_take, List.length_drop, List.length_singleton]; omega))
    rcases List.mem_append.mp h with h | h
    · rcases List.mem_append.mp h with h | h
      · exact hod e' (List.mem_of_mem_take h)
      · rw [List.mem_singleton.mp h]; exact oe
    · exact hod e' (List.mem_of_mem_drop h)
end
end K47
namespace K47
open PySem PySem.Spec PyProof.Rows L2 Fg
local macro_rules | `(tactic| walk_at "sq") => `(tactic| first
  | assumption
  | exact .inl (.inl (by assumption))
  | exact .inl (.inl upd_same))
local macro_rules | `(tactic| walk_at "st") => `(tactic| first
  | assumption
  | exact .inl (.inl (by assumption))
  | exact .inl (.inl upd_same))
local macro_rules | `(tactic| walk_at "o") => `(tactic| first
  | omega
  | assumption
  | (simp only [List.length_append, List.length_take, List.length_drop, List.length_cons, List.length_nil, List.length_singleton, List.length_map, List.length_range, Int.toNat_natCast] ; omega))
local macro_rules | `(tactic| walk_at "s") => `(tactic| first
  | (with_reducible refine i_seq ?_)
  | (with_reducible refine i_asg ?_)
  | ((with_reducible refine' i_var ?h1 ?_); (case h1 => rfl))
  | (with_reducible refine i_c ?_)
  | ((with_reducible refine' i_gname' ?h1 ?_); (case h1 => (simp only [List.set_cons_zero, List.set_cons_succ]; rfl)))
  | (with_reducible refine i_op ?_)
  | (with_reducible refine i_ifS ?_)
  | (with_reducible refine i_for ?_)
  | (with_reducible refine i_test ?_)
  | (with_reducible refine i_B ?_)
  | (with_reducible refine i_exbl ?_)
  | (with_reducible refine i_exint ?_)
  | (with_reducible refine i_cb ?_)
  | (with_reducible refine i_nil ?_)
  | (with_reducible refine i_cons ?_)
  | (with_reducible refine i_ret ?_)
  | (with_reducible refine i_sl ?_)
  | (with_reducible refine i_nopart ?_)
  | (with_reducible refine i_part ?_)
  | (with_reducible refine i_add_int ?_)
  | (with_reducible refine i_sub ?_)
  | (with_reducible refine i_lt ?_)
  | ((with_reducible refine' i_mod ?h1 ?_); (case h1 => walk_at "o"))
  | ((with_reducible refine' i_fdiv ?h1 ?_); (case h1 => (refine cdiv_small ?_ ?_ <;> walk_at "o")))
  | ((with_reducible refine' i_sl_to ?h1 ?h2 ?_); (case h1 => walk_at "o"); (case h2 => walk_at "o"))
  | ((with_reducible refine' i_sl_from ?h1 ?h2 ?_); (case h1 => walk_at "o"); (case h2 => walk_at "o"))
  | ((with_reducible refine' i_add_str ?h1 ?_); (case h1 => walk_at "o"))
  | ((with_reducible refine' i_mul_int ?h1 ?_); (case h1 => first | (refine mul_small ?_ ?_ <;> walk_at "o") | (refine mul_smallR ?_ ?_ <;> walk_at "o")))
  | (with_reducible refine i_le ?_)
  | (with_reducible refine i_gt ?_)
  | (with_reducible refine i_ge ?_)
  | (with_reducible refine i_eq_int ?_)
  | (with_reducible refine i_eq_str ?_)
  | (with_reducible refine i_ne_int ?_)
  | (with_reducible refine i_ne_str ?_)
  | (with_reducible refine i_eq_bl ?_)
  | (with_reducible refine i_ne_bl ?_)
  | (with_reducible refine i_in_sg ?_)
  | (with_reducible refine i_notIn_sg ?_)
  | (with_reducible refine i_call ?_)
  | (with_reducible refine i_callS ?_)
  | (with_reducible refine i_sp1 ?_)
  | (with_reducible refine i_sp2 ?_)
  | (with_reducible refine i_sp3 ?_)
  | (with_reducible refine i_sp4 ?_)
  | (with_reducible refine i_sp1' ?_)
  | (with_reducible refine i_sp2' ?_)
  | (with_reducible refine i_sp3' ?_)
  | ((with_reducible refine' i_ix_lst ?h1 ?h2 ?_); (case h1 => walk_at "sq"); (case h2 => first | exact atI_nat rfl | rfl))
  | ((with_reducible refine' i_ix_tup ?h1 ?h2 ?_); (case h1 => walk_at "st"); (case h2 => first | exact atI_nat rfl | rfl))
  | (with_reducible refine i_gsub ?_)
  | (with_reducible refine i_par ?_)
  | (with_reducible refine i_lstRg1 ?_)
  | (with_reducible refine i_app ?_)
  | (with_reducible refine i_par2 ?_)
  | ((with_reducible refine' i_aug ?h1 ?_); (case h1 => rfl))
  | (with_reducible refine i_ipI ?_)
  | ((with_reducible refine' i_gtup2 ?h1 ?_); (case h1 => walk_at "st"))
  | (with_reducible refine i_int_bl ?_)
  | (with_reducible refine i_raise ?_)
  | (with_reducible refine i_mkE ?_)
  | (with_reducible refine i_ex1 ?_)
  | (with_reducible refine i_and ?_)
  | (with_reducible refine i_or ?_)
  | (with_reducible refine i_not ?_)
  | (with_reducible refine i_tt ?_)
  | (with_reducible refine i_ff ?_)
  | (with_reducible refine i_nott ?_)
  | (with_reducible refine i_notf ?_)
  | (with_reducible refine i_andV ?_)
  | (with_reducible refine i_orV ?_)
  | (with_reducible refine i_notV ?_)
  | (with_reducible refine i_ifE ?_)
  | (with_reducible refine i_tup ?_)
  | (with_reducible refine i_lst ?_)
  | (with_reducible refine i_un ?_)
  | (with_reducible refine i_neg ?_)
  | (with_reducible refine i_chain ?_)
  | (with_reducible refine i_next ?_)
  | (with_reducible refine i_retN ?_)
  | (with_reducible refine i_drop ?_)
  | (with_reducible refine i_int_int ?_)
  | (with_reducible refine i_abs ?_)
  | (with_reducible refine i_m1c ?_)
  | (with_reducible refine i_is_non ?_)
  | (with_reducible refine i_is_int ?_)
  | (with_reducible refine i_is_bl ?_)
  | (with_reducible refine i_isn_bl ?_)
  | (with_reducible refine i_is_str ?_)
  | (with_reducible refine i_is_ref ?_)
  | (with_reducible refine i_isn_non ?_)
  | (with_reducible refine i_isn_int ?_)
  | (with_reducible refine i_isn_str ?_)
  | (with_reducible refine i_isn_ref ?_)
  | (with_reducible refine i_len_str ?h1 ?_; (case h1 => walk_at "o"))
  | (with_reducible refine i_callD ?_)
  | (with_reducible refine i_spD2 ?_)
  | (with_reducible refine i_spM1 ?_)
  | (with_reducible refine i_spM2 ?_)
  | (with_reducible refine i_spM3 ?_)
  | (with_reducible refine i_spM4 ?_)
  | (with_reducible refine i_spM3d ?_)
  | (with_reducible refine i_tfld ?_)
  | (with_reducible refine i_sfld ?_)
  | (with_reducible refine i_meth ?_)
  | (with_reducible refine i_make ?_)
  | (with_reducible refine i_spl ?_)
  | (with_reducible refine i_mkE2 ?_)
  | (with_reducible refine i_ex2 ?_)
  | (with_reducible refine i_dget ?_)
  | (with_reducible refine i_tru ?_)
  | (with_reducible refine i_dput ?_)
  | (with_reducible refine i_dnotin ?_)
  | (with_reducible refine i_din ?_)
  | (with_reducible refine i_rev ?_)
  | (with_reducible refine i_isi_int_int ?_) | (with_reducible refine i_isi_int_bool ?_) | (with_reducible refine i_isi_int_str ?_) | (with_reducible refine i_isi_int_tuple ?_) | (with_reducible refine i_isi_int_list ?_)
  | (with_reducible refine i_isi_bl_int ?_) | (with_reducible refine i_isi_bl_bool ?_) | (with_reducible refine i_isi_bl_str ?_) | (with_reducible refine i_isi_bl_tuple ?_) | (with_reducible refine i_isi_bl_list ?_)
  | (with_reducible refine i_isi_str_int ?_) | (with_reducible refine i_isi_str_bool ?_) | (with_reducible refine i_isi_str_str ?_) | (with_reducible refine i_isi_str_tuple ?_) | (with_reducible refine i_isi_str_list ?_)
  | (with_reducible refine i_isi_non_int ?_) | (with_reducible refine i_isi_non_bool ?_) | (with_reducible refine i_isi_non_str ?_) | (with_reducible refine i_isi_non_tuple ?_) | (with_reducible refine i_isi_non_list ?_))
local macro_rules | `(tactic| walk_at "go") => `(tactic| (repeat' (walk_at "s")))
local macro_rules | `(tactic| walk_at "n") => `(tactic| simp only [wipe, List.map_cons, List.map_nil, List.set_cons_zero, List.set_cons_succ])
def p_law (K : PySem.W.Frag) : P1 := fun x H Q _ => ∃ (a : Addr) (ns : List Int), x = .ref a ∧ SqL K H a (ns.map V.int) ∧ ns.length ≤ 63 ∧ ∀ H', Q (.bl true) H'
theorem made_ext {A H A1 H' : Hp} {C p dx t : Addr} (sa : Same A H) (np : H p = none) (ndx : H dx = none) (ne : dx ≠ p) (s1 : Same A A1) (s2 : Same A1 H') (b : But p (upd (upd H dx (.own p)) p (.ins C dx [])) H')
    (nw : ∀ c, A c = none → A1 c ≠ none → (upd (upd H dx (.own p)) p (.ins C dx [])) c = none) (n1 : A1 p = none) (hp : H' p = some (.ins C dx (OF t))) :
    Ext A H (upd (upd A1 dx (.own p)) p (.ins C dx (OF t))) H' ∧ Same A1 (upd (upd A1 dx (.own p)) p (.ins C dx (OF t))) := by
  have ndxA1 : A1 dx = none := by
    cases e : A1 dx with
    | none => rfl
    | some o =>
      have := nw dx (sa.free ndx) (by rw [e]; simp)
      rw [upd_ne ne, upd_same] at this
      cases this
  have hdx : H' dx = some (.own p) := b dx _ ne ((upd_ne ne).trans upd_same)
  have s3 : Same A1 (upd (upd A1 dx (.own p)) p (.ins C dx (OF t))) := (same_upd ndxA1).trans (same_upd ((upd_ne ne.symm).trans n1))
  refine ⟨⟨s1.trans s3, fun c o e => ?_, fun c o e => ?_, fun c h1 h2 => ?_⟩, s3⟩
  · by_cases h : c = p
    · rw [h, upd_same] at e; rw [h, hp]; exact e
    · rw [upd_ne h] at e
      by_cases h' : c = dx
      · rw [h', upd_same] at e; rw [h', hdx]; exact e
      · rw [upd_ne h'] at e; exact s2 _ _ e
  · have hc : c ≠ p := ne_of_none e np
    have hc2 : c ≠ dx := ne_of_none e ndx
    exact b c o hc ((upd_ne hc).trans ((upd_ne hc2).trans e))
  · by_cases h : c = p
    · rw [h]; exact np
    · by_cases h' : c = dx
      · rw [h']; exact ndx
      · rw [upd_ne h, upd_ne h'] at h2
        have := nw c h1 h2
        rw [upd_ne h, upd_ne h'] at this
        exact this
def rowL (r : List Nat × List Nat) : PyData := .list [dS r.1, .list (r.2.map fun n : Nat => .int (n : Int))]
theorem deep_ints (ns : List Nat) : deepD.deepDs (ns.map fun n : Nat => PyData.int (n : Int)) = ns.map fun n : Nat => PyData.int (n : Int) := by
  rw [deepDs_map, List.map_map]; rfl
theorem deep_row (r : List Nat × List Nat) : deepD (rowD r) = rowD r := by
  show PyData.tuple [dS r.1, .tuple (deepD.deepDs (r.2.map fun n : Nat => PyData.int (n : Int)))] = _
  rw [deep_ints]; rfl
theorem deep_rowL (r : List Nat × List Nat) : deepD (rowL r) = rowD r := by
  show PyData.tuple [dS r.1, .tuple (deepD.deepDs (r.2.map fun n : Nat => PyData.int (n : Int)))] = _
  rw [deep_ints]; rfl
theorem dep_le {m : Nat} : ∀ {ds : List PyData}, (∀ d ∈ ds, d.depth ≤ m) → PyData.depthAll ds ≤ m
  | [], _ => Nat.zero_le _
  | d :: r, h => Nat.max_le.mpr ⟨h d List.mem_cons_self, dep_le fun e he => h e (List.mem_cons_of_mem _ he)⟩
theorem hasD_no : ∀ {ds : List PyData}, (∀ d ∈ ds, d.hasDict = false) → PyData.hasDictAll ds = false
  | [], _ => rfl
  | d :: r, h => by
    show (d.hasDict || PyData.hasDictAll r) = false
    rw [h d List.mem_cons_self, hasD_no fun e he => h e (List.mem_cons_of_mem _ he)]; rfl
theorem dep_row (r : List Nat × List Nat) : (rowD r).depth ≤ 2 ∧ (rowL r).depth ≤ 2 := by
  have e : PyData.depthAll (r.2.map fun n : Nat => PyData.int (n : Int)) ≤ 0 := dep_le fun d hd => by
    obtain ⟨n, _, rfl⟩ := List.mem_map.mp hd
    exact Nat.le_refl 0
  have k : max 0 (max (PyData.depthAll (r.2.map fun n : Nat => PyData.int (n : Int)) + 1) 0) + 1 ≤ 2 := by omega
  exact ⟨k, k⟩
structure TabOK (m : Nat) (e : PyData) : Prop where
  ex : ∃ ds, e = .list ds ∧ (∀ x ∈ ds, OddE x) ∧ ds.length ≤ m
theorem TabOK.mono {m n : Nat} {e : PyData} (h : TabOK m e) (k : m ≤ n) : TabOK n e := by
  obtain ⟨ds, a, b, c⟩ := h.ex
  exact ⟨ds, a, b, Nat.le_trans c k⟩
theorem tab_rp {ds : List PyData} (h : ∀ x ∈ ds, OddE x) (l : ds.length ≤ 400) : Rp 12400 (.list ds) ∧ (PyData.list ds).hasDict = false ∧ (PyData.list ds).depth ≤ 4 :=
  ⟨(Rp.list (m := 30) fun d hd => (h d hd).rp).mono (by omega), hasD_no fun d hd => (h d hd).nd, Nat.succ_le_succ (dep_le fun d hd => (h d hd).dp)⟩
def oD : Option Int → PyData
  | none => .none
  | some i => .int i
theorem oI_at (H : Hp) (o : Option Int) : At H (oI o) (oD o) := by
  cases o with
  | none => exact .non
  | some i => exact .int i
theorem judged_rp (R1 R2 : Rws) {ds : List PyData} (l : ds.length ≤ 1000) : Rp 0 (oD (judged R1 R2 ds)) ∧ (oD (judged R1 R2 ds)).hasDict = false ∧ (oD (judged R1 R2 ds)).depth ≤ 60 := by
  have key : ∀ o : Option Int, (∀ i, o = some i → i.natAbs < 10 ^ 40) → Rp 0 (oD o) ∧ (oD o).hasDict = false ∧ (oD o).depth ≤ 60 := fun o h => by
    cases o with
    | none => exact ⟨Rp.non, rfl, Nat.zero_le _⟩
    | some i => exact ⟨Rp.int (h i rfl), rfl, Nat.zero_le _⟩
  refine key _ fun i hi => ?_
  unfold judged at hi
  dsimp only at hi
  split at hi
  · cases hi; decide
  · obtain ⟨n, hn, rfl⟩ := Option.map_eq_some_iff.mp hi
    have := (List.findIdx?_eq_some_iff_getElem.mp hn).1
    exact natS (by omega)
theorem mk_call {C CB : Addr} {K : PySem.W.Frag} {d : Dd} {Hk G : Hp} {y : V} {e : PyData} {R : Rws} {Rest : Hp → Prop} {E : XK} {p dx : Addr} (dr : D2 K d noF Hk G) (hd : deepD e = .tuple (rowsD R)) (dep : e.depth < 6) (g : Good R) (hy : At Hk y e)
    (q : ∀ Hk' G', Same Hk Hk' → D2 K d noF Hk' G' → RA C Hk' p R → Rest G') (np : G p = none) (ndx : G dx = none) (ne : dx ≠ p) :
    p_init C CB (.ref p) y (upd (upd G dx (.own p)) p (.ins C dx [])) (fun v H2 => v = .non ∧ Rest H2) E := by
  have sH : Same G (upd (upd G dx (.own p)) p (.ins C dx [])) := (same_upd ndx).trans (same_upd ((upd_ne ne.symm).trans np))
  refine ⟨Hk, p, dx, _, rfl, dr.1.trans sH, dr.free np, upd_same, hy, dep, ?_⟩
  rw [hd, badR_good g]
  intro A1 H1 t ds' ed s1 s2 b nw n1 hp at1
  cases ed
  obtain ⟨x1, s3⟩ := made_ext dr.1 np ndx ne s1 s2 b nw n1 hp
  exact ⟨rfl, q _ _ x1.aa (.of0 (Dr.ext dr.to0 x1)) ⟨dx, t, upd_same, at1.same s3⟩⟩
/-- a comprehension over what is made first -/
theorem i_lcA {K : PySem.W.Frag} {σ : L2.St} {H : Hp} {Q : VK} {te tl : TE} {tt : L2.TT} {g : TG} {vs : List Nat} (q : tl σ H fun x H1 => tLc (iAny K fun _ H2 R => R x H2) g tt te vs σ H1 Q) : tLc (iAny K tl) g tt te vs σ H Q := q
section
variable {P : Program} {w : World} {K : PySem.W.Frag} {mg : Str → Option Value} {base : Heap} {C_GlimError C_BadRow C_BadReader C_Reader : Addr}
theorem ok_law_at {f : Addr} {fd : FuncData} (F : Fun K "law" "law" s_law f fd) (T : Txt K mg C_GlimError C_BadRow C_BadReader C_Reader) : GOk P w K mg base CX0 9 f fd ["_law_script"] (sp1 (p_law K)) := by
  refine FnGOk.mk (k := 8) F sc_law len1 fun cdv A outer s H vs Q E hgu hr h => ?_
  obtain ⟨x, rfl, h⟩ := h
  refine ⟨_, (pss_cons (ps_set (i := 1) sc_law.nd rfl (Or.inl rfl) (pe_f (ok_L_draw (K := K) T) (hr.mono (by decide)) pass0 (pa_cons (pv 0) pa_nil))) (pss_cons (ps_set (i := 2) sc_law.nd rfl (Or.inl rfl) (pe_f (ok_L_names (K := K) T) (hr.mono (by decide)) pass0 (pa_cons (pv 1) (pa_cons pe_int pa_nil)))) (pss_cons (ps_asg (pe_f (ok_L_two (K := K) T) (hr.mono (by decide)) pass0 (pa_cons (pv 1) (pa_cons (pv 2) pa_nil))) (pgTup (n := 2) K rfl (pgs_cons (pg_name (i := 3) sc_law.nd rfl (Or.inl rfl)) (pgs_cons (pg_name (i := 4) sc_law.nd rfl (Or.inl rfl)) pgs_nil)))) (pss_cons (ps_set (i := 5) sc_law.nd rfl (Or.inl rfl) (pe_mk (ok_Reader___init__ (K := K) T) (hr.mono (by decide)) Fg.passN (pa_cons (pv 3) pa_nil))) (pss_cons (ps_set (i := 6) sc_law.nd rfl (Or.inl rfl) (pe_mk (ok_Reader___init__ (K := K) T) (hr.mono (by decide)) Fg.passN (pa_cons (pe_lc (own := [("_law_row", 13)]) (g := gName 13) (tt := tYes) (by rfl) sc_law.nd (piAny K (pv 4)) (blkOk_by (own := [("_law_row", 13)]) (N := ["_law_script", "_law_draw_here", "_law_names_here", "_law_one", "_law_two_here", "_law_first", "_law_second", "_law_pairs", "_law_tables", "_law_turn", "_law_table", "_law_before", "_law_due", "_law_row", "_law_pair"]) (sc := (defScope s_law)) (by decide +kernel)) (fun _ _ _ _ _ => (pg_name (i := 13) sc_law.nd rfl (Or.inl rfl))) (fun _ _ _ _ _ => pts_nil) (fun _ _ _ _ _ => (pe_lst (pa_cons (pe_ix (ixK K) (pv 13) pe_int (fun _ _ => rfl)) (pa_cons (pe_callTy (cListP K) (by rfl) T.b_list (by decide +kernel) (pa_cons (pe_ix (ixK K) (pv 13) pe_int (fun _ _ => rfl)) pa_nil)) pa_nil))))) pa_nil))) (pss_cons (ps_set (i := 7) sc_law.nd rfl (Or.inl rfl) (pe_ix (ixK K) (pe_f (ok_L_compared (K := K) T) (hr.mono (by decide)) pass0 (pa_cons (pv 3) (pa_cons (pv 4) (pa_cons pe_int pa_nil)))) pe_int (fun _ _ => rfl))) (pss_cons (ps_set (i := 8) sc_law.nd rfl (Or.inl rfl) (pe_lst (pa_cons (pv 7) (pa_cons (pe_lc (own := [("_law_pair", 14)]) (g := gName 14) (tt := tYes) (by rfl) sc_law.nd (piAny K (Fg.pe_rev K (pv 7) (po_some (pe_un un_neg pe_int)))) (blkOk_by (own := [("_law_pair", 14)]) (N := ["_law_script", "_law_draw_here", "_law_names_here", "_law_one", "_law_two_here", "_law_first", "_law_second", "_law_pairs", "_law_tables", "_law_turn", "_law_table", "_law_before", "_law_due", "_law_row", "_law_pair"]) (sc := (defScope s_law)) (by decide +kernel)) (fun _ _ _ _ _ => (pg_name (i := 14) sc_law.nd rfl (Or.inl rfl))) (fun _ _ _ _ _ => pts_nil) (fun _ _ _ _ _ => (pe_callTy (cListP K) (by rfl) T.b_list (by decide +kernel) (pa_cons (pv 14) pa_nil)))) (pa_cons (pe_lst pa_nil) pa_nil))))) (pss_cons (ps_for PassesOwn.never rfl (pi_range1 rfl T.b_range (pa_cons pe_int pa_nil)) (pg_name (i := 9) sc_law.nd rfl (Or.inl rfl)) (pss_one (ps_expr (peApp K (pv 8) (pa_cons (pe_f (ok_L_spoilt (K := K) T) (hr.mono (by decide)) pass0 (pa_cons (pv 1) (pa_cons (pv 3) (pa_cons (pv 4) (pa_cons (pv 7) pa_nil))))) pa_nil))))) (pss_cons (ps_expr (peApp K (pv 8) (pa_cons (pe_f (ok_L_spoilt (K := K) T) (hr.mono (by decide)) pass0 (pa_cons (pv 1) (pa_cons (pv 3) (pa_cons (pv 4) (pa_cons (pe_ix (ixK K) (pv 8) pe_int (fun _ _ => rfl)) pa_nil))))) pa_nil))) (pss_cons (ps_expr (peApp K (pv 8) (pa_cons (pv 7) pa_nil))) (pss_cons (ps_for PassesOwn.never rfl (piAny K (pv 8)) (pg_name (i := 10) sc_law.nd rfl (Or.inl rfl)) (pss_cons (ps_set (i := 11) sc_law.nd rfl (Or.inl rfl) (pe_callB (Fg.cReprA K hgu hr.units) (by rfl) T.b_repr (by decide +kernel) (pa_cons (pv 10) pa_nil))) (pss_cons (ps_set (i := 12) sc_law.nd rfl (Or.inl rfl) (pe_f (ok_L_judged (K := K) T) (hr.mono (by decide)) pass0 (pa_cons (pv 3) (pa_cons (pv 4) (pa_cons (pv 10) pa_nil))))) (pss_one (ps_if (pw_or (pt_cmpR (opNe K hr.units) (pe_callB (Fg.cReprA K hgu hr.units) (by rfl) T.b_repr (by decide +kernel) (pa_cons (pe_f (ok_judge_readers (K := K) T) (hr.mono (by decide)) pass0 (pa_cons (pv 5) (pa_cons (pv 6) (pa_cons (pv 10) pa_nil)))) pa_nil)) (pe_callB (Fg.cReprA K hgu hr.units) (by rfl) T.b_repr (by decide +kernel) (pa_cons (pv 12) pa_nil)) (nomark _)) (pw_or1 (pt_cmpR (opNe K hr.units) (pe_callB (Fg.cReprA K hgu hr.units) (by rfl) T.b_repr (by decide +kernel) (pa_cons (pv 10) pa_nil)) (pv 11) (nomark _)))).pt (pss_one (ps_ret pe_bl)) pss_nil))))) (pss_cons (ps_if (pt_cmpR (opNe K hr.units) (pe_callB (Fg.cReprA K hgu hr.units) (by rfl) T.b_repr (by decide +kernel) (pa_cons (pe_f (ok_judge_readers (K := K) T) (hr.mono (by decide)) pass0 (pa_cons (pv 5) (pa_cons (pv 6) (pa_cons (pe_callTy (cTup K) (by rfl) T.b_tuple (by decide +kernel) (pa_cons (pe_ix (ixK K) (pv 8) pe_int (fun _ _ => rfl)) pa_nil)) pa_nil)))) pa_nil)) (pe_callB (Fg.cReprA K hgu hr.units) (by rfl) T.b_repr (by decide +kernel) (pa_cons (pe_f (ok_L_judged (K := K) T) (hr.mono (by decide)) pass0 (pa_cons (pv 3) (pa_cons (pv 4) (pa_cons (pe_ix (ixK K) (pv 8) pe_int (fun _ _ => rfl)) pa_nil)))) pa_nil)) (nomark _)) (pss_one (ps_ret pe_bl)) pss_nil) (pss_cons (ps_if (pt_cmpR (opNe K hr.units) (pe_callB (Fg.cReprA K hgu hr.units) (by rfl) T.b_repr (by decide +kernel) (pa_cons (pe_f (ok_judge_readers (K := K) T) (hr.mono (by decide)) pass0 (pa_cons (pv 5) (pa_cons (pv 5) (pa_cons (pe_callTy (cTup K) (by rfl) T.b_tuple (by decide +kernel) (pa_cons (pe_lst (pa_cons (pe_tup (pa_cons pe_int (pa_cons pe_int pa_nil))) pa_nil)) pa_nil)) pa_nil)))) pa_nil)) (pe_callB (Fg.cReprA K hgu hr.units) (by rfl) T.b_repr (by decide +kernel) (pa_cons (pe_f (ok_L_judged (K := K) T) (hr.mono (by decide)) pass0 (pa_cons (pv 3) (pa_cons (pv 3) (pa_cons (pe_lst (pa_cons (pe_tup (pa_cons pe_int (pa_cons pe_int pa_nil))) pa_nil)) pa_nil)))) pa_nil)) (nomark _)) (pss_one (ps_ret pe_bl)) pss_nil) (pss_one (ps_ret (pe_cmpR (opEq K hr.units) (pe_callB (Fg.cReprA K hgu hr.units) (by rfl) T.b_repr (by decide +kernel) (pa_cons (pe_f (ok_judge_readers (K := K) T) (hr.mono (by decide)) pass0 (pa_cons (pv 6) (pa_cons (pv 5) (pa_cons (pe_callTy (cTup K) (by rfl) T.b_tuple (by decide +kernel) (pa_cons (pv 7) pa_nil)) pa_nil)))) pa_nil)) (pe_callB (Fg.cReprA K hgu hr.units) (by rfl) T.b_repr (by decide +kernel) (pa_cons (pe_f (ok_L_judged (K := K) T) (hr.mono (by decide)) pass0 (pa_cons (pv 4) (pa_cons (pv 3) (pa_cons (pv 7) pa_nil)))) pa_nil)) (nomark _))))))))))))))))), ?_⟩
  show (_ : TS) { nx := fun _ H' => Q .non H', rt := Q } [some x, none, none, none, none, none, none, none, none, none, none, none, none, none, none] H
  obtain ⟨a, ns, rfl, hS, hl, q⟩ := h
  walk_at "go"
  refine ⟨a, ns, rfl, hS, by omega, fun H0 d H1 s0 dr => ?_⟩
  walk_at "go"
  refine ⟨H0, d, 2, rfl, rfl, by decide, dr, fun nl ns2 H2 knl dr2 l2 nd2 hw2 => ?_⟩
  obtain ⟨n1, n2, rfl⟩ : ∃ n1 n2, ns2 = [n1, n2] := by
    match ns2, l2 with
    | [x, y], _ => exact ⟨x, y, rfl⟩
  have w1 := hw2 n1 (by simp)
  have w2 := hw2 n2 (by simp)
  have hnl : (upd H0 nl (.lst ([n1, n2].map S))) nl = some (.lst ([n1, n2].map S)) := upd_same
  generalize upd H0 nl (.lst ([n1, n2].map S)) = N at *
  clear knl dr s0 hw2 nd2 l2
  walk_at "go"
  refine ⟨N, d, nl, n1, n2, rfl, rfl, .of0 dr2, hnl, w1, w2, fun A H3 t r1 r2 R1 R2 sA d3 ht a1 a2 g1 g2 l1 l2 => ?_⟩
  have htH := d3.old ht
  clear dr2 hnl w1 w2 sA ht
  walk_at "go"
  intro p1 dx np ndx ne
  walk_at "go"
  have dr1 : (PyData.list (rowsD R1)).depth < 6 := Nat.lt_of_le_of_lt (Nat.succ_le_succ (dep_le (m := 2) fun d hd => by
    obtain ⟨r, _, rfl⟩ := List.mem_map.mp hd
    exact (dep_row r).1)) (by decide)
  have er1 : deepD (.list (rowsD R1)) = .tuple (rowsD R1) := by
    show PyData.tuple (deepD.deepDs (rowsD R1)) = _
    rw [deepDs_map]
    unfold rowsD
    rw [List.map_map]
    congr 1
    exact List.map_congr_left fun r _ => deep_row r
  refine mk_call d3 er1 dr1 g1 a1 (fun A2 G2 s2 d4 i1 => ?_) np ndx ne
  clear np ndx ne d3 htH
  replace a1 := a1.same s2
  replace a2 := a2.same s2
  clear s2 dx dr1 er1
  obtain ⟨xs2, hx2, xl2, al2⟩ := rowsAt a2
  walk_at "go"
  refine c_seqB (a := r2) d4 (.inl hx2) al2 (fun R k => by walk_at "go"; exact k) (by unfold rowsD; rw [List.length_map]; omega) (fun i e' => ∃ r, R2[i]? = some r ∧ e' = rowL r) (fun _ => rfl) (fun j x e A1 G1 fr hj hx s1 d5 QV k => ?_) (fun A1 G1 Dl ys es s1 d5 hDl aly dl hP => ?_)
  · unfold rowsD at hj
    rw [List.getElem?_map] at hj
    obtain ⟨r, hr, rfl⟩ := Option.map_eq_some_iff.mp hj
    obtain ⟨ra, rb, rfl, hra, hrb⟩ := rowD_at hx
    have rm := List.mem_of_getElem? hr
    have ok := g2.row r rm
    have hraG := d5.old hra
    walk_at "n"
    walk_at "go"
    refine i_listT (d5.old hrb) fun p1 np1 => ?_
    obtain ⟨A2', s2, e2, d6⟩ := d5.step (.lst (r.2.map fun n : Nat => V.int (n : Int))) np1
    walk_at "go"
    refine i_new (by show 2 ≤ 100000; omega) fun p2 np2 => ?_
    obtain ⟨A3, s3, e3, d7⟩ := d6.step (.lst [S r.1, .ref p1]) np2
    refine k A3 _ _ _ (s2.trans s3) d7 (At.mkLst e3 (.cons (.str _ ?_) (.one (At.mkLst (s3 _ _ e2) (intsAt _) (by rw [List.length_map, ok.2.1]; decide)))) (by show 2 ≤ 10000; decide)) ⟨r, hr, rfl⟩
    have := mk_len ok.1
    omega
  obtain rfl : es = R2.map rowL := by
    have rd : (rowsD R2).length = R2.length := by unfold rowsD; rw [List.length_map]
    refine List.ext_getElem? fun i => ?_
    rw [List.getElem?_map]
    cases e : es[i]? with
    | none => rw [List.getElem?_eq_none (by have := List.getElem?_eq_none_iff.mp e; omega)]; rfl
    | some v =>
      obtain ⟨r, hr, rfl⟩ := hP i v e
      rw [hr]; rfl
  replace a1 := a1.same s1
  replace a2 := a2.same s1
  replace i1 := i1.same s1
  have aD : At A1 (.ref Dl) (.list (R2.map rowL)) := At.mkLst hDl aly (by rw [List.length_map]; omega)
  have dr2 : (PyData.list (R2.map rowL)).depth < 6 := Nat.lt_of_le_of_lt (Nat.succ_le_succ (dep_le (m := 2) fun d hd => by
    obtain ⟨r, _, rfl⟩ := List.mem_map.mp hd
    exact (dep_row r).2)) (by decide)
  have er2 : deepD (.list (R2.map rowL)) = .tuple (rowsD R2) := by
    show PyData.tuple (deepD.deepDs (R2.map rowL)) = _
    rw [deepDs_map, List.map_map]
    unfold rowsD
    congr 1
    exact List.map_congr_left fun r _ => deep_rowL r
  clear s1 hDl aly dl hP hx2 xl2 al2 d4
  walk_at "go"
  intro p2 dx np ndx ne
  walk_at "go"
  refine mk_call d5 er2 dr2 g2 aD (fun A2 G2 s2 d6 i2 => ?_) np ndx ne
  clear np ndx ne d5 aD er2 dr2
  replace a1 := a1.same s2
  replace a2 := a2.same s2
  replace i1 := i1.same s2
  clear s2 dx
  walk_at "go"
  refine ⟨A2, r1, r2, R1, R2, 300, rfl, rfl, rfl, d6.1, a1, a2, g1, g2, by decide, fun A3 H4 t pl ps br x1 ht1 apl cmp pl304 plt => ?_⟩
  have d7 : D2 K d noF A3 H4 := .of0 (Dr.ext d6.to0 x1)
  replace a1 := a1.same x1.aa
  replace a2 := a2.same x1.aa
  replace i1 := i1.same x1.aa
  replace i2 := i2.same x1.aa
  have htH := d7.old ht1
  have m1 := g1.most
  have m2 := g2.most
  have okP : ∀ x ∈ ps.map pairD, OddE x := fun x hx => by
    obtain ⟨p, hp, rfl⟩ := List.mem_map.mp hx
    have := plt p hp
    exact od_pairD (by omega) (by omega)
  have tabP : TabOK 304 (.list (ps.map pairD)) := ⟨_, rfl, okP, by rw [List.length_map]; exact pl304⟩
  obtain ⟨_, zs, ez, hpl, _, alp⟩ := apl.listed
  cases ez
  have zl := alp.len
  rw [List.length_map] at zl
  clear x1 d6
  walk_at "go"
  refine i_lcA ?_
  refine i_rev ?_
  walk_at "go"
  refine i_revL (.inl (.inl (d7.old hpl))) fun rv nrv => ?_
  obtain ⟨A4, s4, e4, d8⟩ := d7.step (.lst zs.reverse) nrv
  have alr := AtAll.rev (alp.same s4)
  rw [← List.map_reverse] at alr
  refine c_seqB (a := rv) d8 (.inl e4) alr (fun R k => k) (by rw [List.length_map, List.length_reverse]; omega) (fun i e' => OddE e') (fun _ => rfl) (fun j x e A1 G1 fr hj hx s1 d5 QV k => ?_) (fun A5 G5 Dl ys es s5 d9 hDl aly dl hP => ?_)
  · rw [List.getElem?_map] at hj
    obtain ⟨p, hp, rfl⟩ := Option.map_eq_some_iff.mp hj
    have pm := List.mem_reverse.mp (List.mem_of_getElem? hp)
    have lt := plt p pm
    obtain ⟨b, rfl, hb⟩ := pairD_at hx
    walk_at "n"
    walk_at "go"
    refine i_listT (d5.old hb) fun p1 np1 => ?_
    obtain ⟨A6, s6, e6, d6⟩ := d5.step (.lst [.int (p.1 : Int), .int (p.2 : Int)]) np1
    exact k A6 _ _ _ s6 d6 (at_twoL e6 (.int _) (.int _)) (od_pair (natS (by omega)) (natS (by omega))).2
  have okR : ∀ x ∈ es, OddE x := fun x hx => by
    obtain ⟨i, hi, e⟩ := List.mem_iff_getElem.mp hx
    exact hP i x (by rw [List.getElem?_eq_getElem hi, e])
  have lenR : es.length ≤ 304 := by rw [dl, List.length_map, List.length_reverse]; exact pl304
  have tabR : TabOK 304 (.list es) := ⟨_, rfl, okR, lenR⟩
  have s35 := s4.trans s5
  replace a1 := a1.same s35
  replace a2 := a2.same s35
  replace i1 := i1.same s35
  replace i2 := i2.same s35
  replace apl := apl.same s35
  have aDl : At A5 (.ref Dl) (.list es) := At.mkLst hDl aly (by omega)
  clear d8 d7 alr e4 s4 s5 s35 hDl aly
  walk_at "go"
  refine i_new (by show 0 ≤ 100000; omega) fun em nem => ?_
  obtain ⟨A6, s6, e6, d7⟩ := d9.step (.lst []) nem
  replace a1 := a1.same s6
  replace a2 := a2.same s6
  replace i1 := i1.same s6
  replace i2 := i2.same s6
  replace apl := apl.same s6
  replace aDl := aDl.same s6
  have aem : At A6 (.ref em) (.list []) := At.mkLst e6 .nil (Nat.zero_le _)
  clear d9 s6 e6
  walk_at "go"
  refine i_new (by show 3 ≤ 100000; omega) fun L nL => ?_
  have d8 := d7.new (o := .lst [.ref pl, .ref Dl, .ref em]) nL
  have lb0 : LB K d noF A6 L (upd _ L (.lst [.ref pl, .ref Dl, .ref em])) [.list (ps.map pairD), .list es, .list []] := LB.start d8 (d7.free nL) (.cons apl (.cons aDl (.one aem))) d7.cel
  have tab0 : ∀ e ∈ ([.list (ps.map pairD), .list es, .list []] : List PyData), TabOK 305 e := fun e he => by
    simp only [List.mem_cons, List.not_mem_nil, or_false] at he
    rcases he with rfl | rfl | rfl
    · exact tabP.mono (by decide)
    · exact tabR.mono (by decide)
    · exact ⟨[], rfl, fun x hx => absurd hx (by simp), Nat.zero_le _⟩
  generalize hG : upd _ L (.lst [.ref pl, .ref Dl, .ref em]) = G0 at *
  clear hG d8
  have la1 := LA.of a1
  have la2 := LA.of a2
  walk_at "go"
  have base : ∀ {G : Hp} {tabs : List PyData}, LB K d noF A6 L G tabs → Same A6 G := fun lb => by
    obtain ⟨A1, xs, fr, s1, _, _, _, d2, k⟩ := lb.op
    exact s1.trans d2.1
  have app : ∀ {G : Hp} {tabs : List PyData}, LB K d noF A6 L G tabs → ∃ A1 xs fr, Same A6 A1 ∧ G L = some (.lst xs) ∧ xs.length = tabs.length ∧ AtAll A1 xs tabs ∧ D2 K d fr A1 G ∧ ∀ A2 G2 v es, Same A1 A2 → D2 K d fr A2 G2 → At A2 v (.list es) → G2 L = some (.lst xs) ∧ LB K d noF A6 L (upd G2 L (.lst (xs ++ [v]))) (tabs ++ [.list es]) := fun lb => by
    obtain ⟨A1, xs, fr, s1, hL, xl, al, d2, k⟩ := lb.op
    refine ⟨A1, xs, fr, s1, hL, xl, al, d2, fun A2 G2 v es s2 d3 hv => ?_⟩
    obtain ⟨hL2, _, _, ap, _⟩ := k A2 G2 s2 d3
    exact ⟨hL2, ap v _ hv⟩
  refine f_rng1 6 (fun R k => by walk_at "go"; exact k) (by decide) (fun i σ G => ∃ v9 tabs, σ = [some (.ref a), some (.ref d.a), some (.ref nl), some (.ref r1), some (.ref r2), some (.ref p1), some (.ref p2), some (.ref pl), some (.ref L), v9, none, none, none, none, none] ∧ LB K d noF A6 L G tabs ∧ tabs.length = 3 + i ∧ ∀ e ∈ tabs, TabOK 305 e) ⟨none, _, rfl, lb0, rfl, tab0⟩ ?_ ?_
  · rintro i σ G hi ⟨v9, tabs, rfl, lb, tl, tabs5⟩
    show (_ : TS) _ [some (.ref a), some (.ref d.a), some (.ref nl), some (.ref r1), some (.ref r2), some (.ref p1), some (.ref p2), some (.ref pl), some (.ref L), some (.int (i : Int)), none, none, none, none, none] G
    obtain ⟨A1, xs, fr, s1, hL, xl, _, d2, k⟩ := app lb
    walk_at "go"
    refine i_appAt hL ?_
    walk_at "go"
    refine ⟨A1, d, fr, r1, r2, pl, R1, R2, ps.map pairD, rfl, rfl, rfl, rfl, d2, la1.same s1, la2.same s1, g1, g2, apl.same s1, okP, by rw [List.length_map]; omega, fun A2 G2 v es s2 d3 av oe le => ?_⟩
    rw [List.length_map] at le
    obtain ⟨hL2, lb2⟩ := k A2 G2 _ es s2 d3 av
    walk_at "go"
    refine i_appEnd hL2 (by omega) ?_
    refine ⟨_, _, rfl, lb2, by rw [List.length_append, tl]; rfl, fun e he => ?_⟩
    rcases List.mem_append.mp he with he | he
    · exact tabs5 e he
    · rw [List.mem_singleton.mp he]; exact ⟨es, rfl, oe, by omega⟩
  rintro σ G ⟨v9, tabs, rfl, lb, tl, tabs5⟩
  clear lb0 tab0 tabR aDl aem nL nem
  obtain ⟨A1, xs, fr, s1, hL, xl, alx, d2, k⟩ := app lb
  have h3 : xs[3]? = some xs[3] := List.getElem?_eq_getElem (by omega)
  obtain ⟨e3, he3, ae3⟩ := alx.get h3
  obtain ⟨ds3, rfl, od3, l3⟩ := (tabs5 e3 (List.mem_of_getElem? he3)).ex
  obtain ⟨tb3, ys3, ev3, _⟩ := ae3.listed
  walk_at "go"
  refine i_appAt hL ?_
  walk_at "go"
  refine i_ix_lst (.inl (.inl hL)) (atI_int (by decide) h3) ?_
  walk_at "go"
  rw [ev3] at ae3 ⊢
  refine ⟨A1, d, fr, r1, r2, tb3, R1, R2, ds3, rfl, rfl, rfl, rfl, d2, la1.same s1, la2.same s1, g1, g2, ae3, od3, by omega, fun A2 G2 v es s2 d3 av oe le => ?_⟩
  obtain ⟨hL2, lb2⟩ := k A2 G2 _ es s2 d3 av
  walk_at "go"
  refine i_appEnd hL2 (by omega) ?_
  have tabs6 : ∀ e ∈ tabs ++ [.list es], TabOK 306 e := fun e he => by
    rcases List.mem_append.mp he with he | he
    · exact (tabs5 e he).mono (by decide)
    · rw [List.mem_singleton.mp he]; exact ⟨es, rfl, oe, by omega⟩
  have tl6 : (tabs ++ [PyData.list es]).length = 10 := by rw [List.length_append, tl]; rfl
  clear k d2 alx he3 ae3 od3 l3 lb hL s1 hL2 av d3 s2 oe le
  generalize upd G2 L (.lst (xs ++ [.ref v])) = G3 at *
  generalize tabs ++ [PyData.list es] = tabs at *
  obtain ⟨A3, us, fr, s3, hL, ul, alu, d4, k⟩ := app lb2
  walk_at "go"
  refine i_appAt hL ?_
  walk_at "go"
  refine i_appEnd hL (by omega) ?_
  obtain ⟨_, lb3⟩ := k A3 G3 _ _ (Same.refl _) d4 (apl.same s3)
  have tabs7 : ∀ e ∈ tabs ++ [.list (ps.map pairD)], TabOK 306 e := fun e he => by
    rcases List.mem_append.mp he with he | he
    · exact tabs6 e he
    · rw [List.mem_singleton.mp he]; exact tabP.mono (by decide)
  have tl7 : (tabs ++ [PyData.list (ps.map pairD)]).length = 11 := by rw [List.length_append, tl6]; rfl
  generalize upd G3 L (.lst (us ++ [.ref pl])) = G4 at *
  generalize tabs ++ [PyData.list (ps.map pairD)] = tabs at *
  clear k d4 alu ul hL s3 lb2 tabs6 tl6 base app
  obtain ⟨A4, us, s4, d5, hL, alu, _, ul⟩ := lb3.cl (by omega)
  replace la1 := la1.same s4
  replace la2 := la2.same s4
  replace i1 := i1.same s4
  replace i2 := i2.same s4
  replace apl := apl.same s4
  clear s4 lb3 d7
  have sA4 := d5.1
  clear d5
  have jud : ∀ {G : Hp} {x y z : V} {c1 c2 : Addr} {S1 S2 : Rws} {e : PyData} {ds : List PyData} {Rv : VK} {E : XK}, x = .ref c1 → y = .ref c2 → RA C_Reader G c1 S1 → RA C_Reader G c2 S2 → Good S1 → Good S2 → At G z e → (e = .list ds ∨ e = .tuple ds) → e.depth < 6 → (∀ H', Same G H' → Rv (oI (judged S1 S2 ds)) H') → p_judge C_Reader x y z G Rv E :=
    fun e1 e2 r1 r2 h1 h2 hz he hd k => ⟨_, _, _, _, _, _, e1, e2, r1, r2, h1, h2, hz, he, hd, k⟩
  walk_at "go"
  refine i_forL (xs := us) (.inl (.inl (sA4 _ _ hL))) (fun i σ G => ∃ v10 v11 v12, σ = [some (.ref a), some (.ref d.a), some (.ref nl), some (.ref r1), some (.ref r2), some (.ref p1), some (.ref p2), some (.ref pl), some (.ref L), v9, v10, v11, v12, none, none] ∧ Same A4 G) ⟨none, none, none, rfl, sA4⟩ ?_ ?_ ?_
  · rintro i σ G _ ⟨_, _, _, rfl, s5⟩
    exact .inl (.inl (s5 _ _ hL))
  · rintro i x σ G hi ⟨v10, v11, v12, rfl, s5⟩
    show (_ : TS) _ [some (.ref a), some (.ref d.a), some (.ref nl), some (.ref r1), some (.ref r2), some (.ref p1), some (.ref p2), some (.ref pl), some (.ref L), v9, some x, v11, v12, none, none] G
    obtain ⟨e, he, ae⟩ := alu.get hi
    obtain ⟨ds, rfl, ho, lo⟩ := (tabs7 e (List.mem_of_getElem? he)).ex
    obtain ⟨rp, nd, dp⟩ := tab_rp ho (by omega)
    obtain ⟨rpj, ndj, dpj⟩ := judged_rp R1 R2 (ds := ds) (by omega)
    walk_at "go"
    refine i_reprA (ae.same s5) rp (by decide) nd (by omega) ?_
    walk_at "go"
    refine ⟨r1, r2, R1, R2, ds, rfl, rfl, la1.same s5, la2.same s5, g1, g2, ae.same s5, fun G6 s6 => ?_⟩
    have s56 := s5.trans s6
    walk_at "go"
    refine jud rfl rfl (i1.same s56) (i2.same s56) g1 g2 (ae.same s56) (.inl rfl) (by omega) fun G7 s7 => ?_
    have s57 := s56.trans s7
    walk_at "go"
    refine i_reprA (oI_at _ _) rpj (by decide) ndj dpj ?_
    walk_at "go"
    refine i_reprA (oI_at _ _) rpj (by decide) ndj dpj ?_
    refine i_ne_same ?_
    walk_at "go"
    refine i_reprA (ae.same s57) rp (by decide) nd (by omega) ?_
    walk_at "go"
    refine i_ne_same ?_
    walk_at "go"
    exact ⟨_, _, _, rfl, s57⟩
  · rintro σ G ⟨v10, v11, v12, rfl, s5⟩
    have h5 : us[5]? = some us[5] := List.getElem?_eq_getElem (by omega)
    obtain ⟨e5, he5, ae5⟩ := alu.get h5
    obtain ⟨ds, rfl, ho, lo⟩ := (tabs7 e5 (List.mem_of_getElem? he5)).ex
    obtain ⟨rp, nd, dp⟩ := tab_rp ho (by omega)
    obtain ⟨rpj, ndj, dpj⟩ := judged_rp R1 R2 (ds := ds) (by omega)
    obtain ⟨tb5, ys5, ev5, hy5, _, aly5⟩ := ae5.listed
    walk_at "go"
    refine i_ix_lst (.inl (.inl (s5 _ _ hL))) (atI_int (by decide) h5) ?_
    rw [ev5]
    walk_at "go"
    refine i_tuple_lst (.inl (.inl (s5 _ _ hy5))) fun t5 nt5 => ?_
    have s6 := s5.trans (same_upd (o := HO.tup ys5) nt5)
    have at5 : At (upd G t5 (.tup ys5)) (.ref t5) (.tuple ds) := At.mkTup upd_same (aly5.same s6) (by omega)
    walk_at "go"
    refine jud rfl rfl (i1.same s6) (i2.same s6) g1 g2 at5 (.inr rfl) (Nat.lt_of_le_of_lt dp (by decide)) fun G7 s7 => ?_
    have s57 := s6.trans s7
    walk_at "go"
    refine i_reprA (oI_at _ _) rpj (by decide) ndj dpj ?_
    walk_at "go"
    refine i_ix_lst (.inl (.inl (s57 _ _ hL))) (atI_int (by decide) h5) ?_
    walk_at "go"
    refine ⟨r1, r2, R1, R2, ds, rfl, rfl, la1.same s57, la2.same s57, g1, g2, ae5.same s57, fun G8 s8 => ?_⟩
    walk_at "go"
    refine i_reprA (oI_at _ _) rpj (by decide) ndj dpj ?_
    refine i_ne_same ?_
    have s58 := s57.trans s8
    clear s57 s6 s7 s8 at5
    walk_at "go"
    refine i_new (by show 2 ≤ 100000; omega) fun k1 nk1 => ?_
    have c1 := same_upd (o := HO.tup [.int 0, .int 0]) nk1
    have e1 : (upd G8 k1 (.tup [.int 0, .int 0])) k1 = some (.tup [.int 0, .int 0]) := upd_same
    generalize upd G8 k1 (.tup [.int 0, .int 0]) = B1 at *
    walk_at "go"
    refine i_new (by show 1 ≤ 100000; omega) fun k2 nk2 => ?_
    have c2 := same_upd (o := HO.lst [.ref k1]) nk2
    have e2 : (upd B1 k2 (.lst [.ref k1])) k2 = some (.lst [.ref k1]) := upd_same
    generalize upd B1 k2 (.lst [.ref k1]) = B2 at *
    walk_at "go"
    refine i_tuple_lst (.inl (.inl e2)) fun k3 nk3 => ?_
    have c3 := same_upd (o := HO.tup [.ref k1]) nk3
    have e3 : (upd B2 k3 (.tup [.ref k1])) k3 = some (.tup [.ref k1]) := upd_same
    generalize upd B2 k3 (.tup [.ref k1]) = B3 at *
    have at3 : At B3 (.ref k3) (.tuple [.tuple [.int 0, .int 0]]) := At.mkTup e3 (.one (at_two (c3 _ _ (c2 _ _ e1)) (.int 0) (.int 0))) (by show 1 ≤ 10000; decide)
    have s9 := ((s58.trans c1).trans c2).trans c3
    obtain ⟨rpk, ndk, dpk⟩ := judged_rp R1 R1 (ds := [.tuple [.int 0, .int 0]]) (by decide)
    walk_at "go"
    refine jud rfl rfl (i1.same s9) (i1.same s9) g1 g1 at3 (.inr rfl) (by decide) fun B4 s10 => ?_
    walk_at "go"
    refine i_reprA (oI_at _ _) rpk (by decide) ndk dpk ?_
    have sB4 := s9.trans s10
    walk_at "go"
    refine i_new (by show 2 ≤ 100000; omega) fun k4 nk4 => ?_
    have c4 := same_upd (o := HO.tup [.int 0, .int 0]) nk4
    have e4 : (upd B4 k4 (.tup [.int 0, .int 0])) k4 = some (.tup [.int 0, .int 0]) := upd_same
    generalize upd B4 k4 (.tup [.int 0, .int 0]) = B5 at *
    walk_at "go"
    refine i_new (by show 1 ≤ 100000; omega) fun k5 nk5 => ?_
    have c5 := same_upd (o := HO.lst [.ref k4]) nk5
    have e5 : (upd B5 k5 (.lst [.ref k4])) k5 = some (.lst [.ref k4]) := upd_same
    generalize upd B5 k5 (.lst [.ref k4]) = B6 at *
    have at5 : At B6 (.ref k5) (.list [.tuple [.int 0, .int 0]]) := At.mkLst e5 (.one (at_two (c5 _ _ e4) (.int 0) (.int 0))) (by show 1 ≤ 10000; decide)
    have sB6 := (sB4.trans c4).trans c5
    walk_at "go"
    refine ⟨r1, r1, R1, R1, _, rfl, rfl, la1.same sB6, la1.same sB6, g1, g1, at5, fun B7 s11 => ?_⟩
    walk_at "go"
    refine i_reprA (oI_at _ _) rpk (by decide) ndk dpk ?_
    refine i_ne_same ?_
    have sB7 := sB6.trans s11
    obtain ⟨_, zs, ez, hpl, _, alp⟩ := apl.listed
    cases ez
    obtain ⟨rpl, ndl, dpl⟩ := judged_rp R2 R1 (ds := ps.map pairD) (by rw [List.length_map]; omega)
    obtain ⟨_, _, dpt⟩ := tab_rp okP (by rw [List.length_map]; omega)
    walk_at "go"
    refine i_tuple_lst (.inl (.inl (sB7 _ _ hpl))) fun t6 nt6 => ?_
    have c6 := sB7.trans (same_upd (o := HO.tup zs) nt6)
    have at6 : At (upd B7 t6 (.tup zs)) (.ref t6) (.tuple (ps.map pairD)) := At.mkTup upd_same (alp.same c6) (by rw [List.length_map]; omega)
    walk_at "go"
    refine jud rfl rfl (i2.same c6) (i1.same c6) g2 g1 at6 (.inr rfl) (Nat.lt_of_le_of_lt dpt (by decide)) fun B8 s12 => ?_
    walk_at "go"
    refine i_reprA (oI_at _ _) rpl (by decide) ndl dpl ?_
    have sB8 := c6.trans s12
    walk_at "go"
    refine ⟨r2, r1, R2, R1, _, rfl, rfl, la2.same sB8, la1.same sB8, g2, g1, apl.same sB8, fun B9 s13 => ?_⟩
    walk_at "go"
    refine i_reprA (oI_at _ _) rpl (by decide) ndl dpl ?_
    refine i_eq_same ?_
    exact q _
end
end K47
namespace K47
open PySem PySem.Spec PyProof.Rows L2 Fg
theorem all_mk {l : PySem.W.OpenLaw} {w : World} {K : PySem.W.Frag} {h : Heap} {mg : Str → Option Value} {fa C_GlimError C_BadRow C_BadReader C_Reader f1 f2 f3 f4 f5 f6 f7 f8 f9 f10 f11 f12 f13 f14 f15 f16 f17 f18 f19 f20 f21 f22 f23 f24 f25 f26 f27 f28 f29 f30 f31 f32 f33 f34 f35 f36 f37 f38 f39 f40 f41 : Addr} (X : K.In h) (G : h.Ns mainGlobals mg) (hfa : mg "law" = some (.ref fa))
    {od1 an1 od2 an2 od3 an3 od4 an4 od5 an5 od6 an6 od7 an7 od8 an8 od9 an9 od10 an10 od11 an11 od12 an12 od13 an13 od14 an14 od15 an15 od16 an16 od17 an17 od18 an18 od19 an19 od20 an20 od21 an21 od22 an22 od23 an23 od24 an24 od25 an25 od26 an26 od27 an27 od28 an28 od29 an29 od30 an30 od31 an31 od32 an32 od33 an33 od34 an34 od35 an35 od36 an36 od37 an37 od38 an38 od39 an39 od40 an40 od41 an41 : Option Addr} {sl1 sl2 sl3 sl4 sl5 sl6 sl7 sl8 sl9 sl10 sl11 sl12 sl13 sl14 sl15 sl16 sl17 sl18 sl19 sl20 sl21 sl22 sl23 sl24 sl25 sl26 sl27 sl28 sl29 sl30 sl31 sl32 sl33 sl34 sl35 sl36 sl37 sl38 sl39 sl40 sl41 : Array (Option Value)} {oc1 kV1 dc1 pm1 cd1 ct1 oc2 kV2 dc2 pm2 cd2 ct2 oc3 kV3 dc3 pm3 cd3 ct3 oc4 kV4 dc4 pm4 cd4 ct4 oc5 kV5 dc5 pm5 cd5 ct5 oc6 kV6 dc6 pm6 cd6 ct6 oc7 kV7 dc7 pm7 cd7 ct7 oc8 kV8 dc8 pm8 cd8 ct8 oc9 kV9 dc9 pm9 cd9 ct9 oc10 kV10 dc10 pm10 cd10 ct10 oc11 kV11 dc11 pm11 cd11 ct11 oc12 kV12 dc12 pm12 cd12 ct12 oc13 kV13 dc13 pm13 cd13 ct13 oc14 kV14 dc14 pm14 cd14 ct14 oc15 kV15 dc15 pm15 cd15 ct15 oc16 kV16 dc16 pm16 cd16 ct16 oc17 kV17 dc17 pm17 cd17 ct17 oc18 kV18 dc18 pm18 cd18 ct18 oc19 kV19 dc19 pm19 cd19 ct19 oc20 kV20 dc20 pm20 cd20 ct20 oc21 kV21 dc21 pm21 cd21 ct21 oc22 kV22 dc22 pm22 cd22 ct22 oc23 kV23 dc23 pm23 cd23 ct23 oc24 kV24 dc24 pm24 cd24 ct24 oc25 kV25 dc25 pm25 cd25 ct25 oc26 kV26 dc26 pm26 cd26 ct26 oc27 kV27 dc27 pm27 cd27 ct27 oc28 kV28 dc28 pm28 cd28 ct28 oc29 kV29 dc29 pm29 cd29 ct29 oc30 kV30 dc30 pm30 cd30 ct30 oc31 kV31 dc31 pm31 cd31 ct31 oc32 kV32 dc32 pm32 cd32 ct32 oc33 kV33 dc33 pm33 cd33 ct33 oc34 kV34 dc34 pm34 cd34 ct34 oc35 kV35 dc35 pm35 cd35 ct35 oc36 kV36 dc36 pm36 cd36 ct36 oc37 kV37 dc37 pm37 cd37 ct37 oc38 kV38 dc38 pm38 cd38 ct38 oc39 kV39 dc39 pm39 cd39 ct39 oc40 kV40 dc40 pm40 cd40 ct40 oc41 kV41 dc41 pm41 cd41 ct41 : Value}
    {nm_BadReader q_BadReader : Str} {N_BadReader : Addr} {bs_BadReader bm_BadReader : List Value} {sn_BadReader : List Str} {sub_BadReader : List Value} {ab_BadReader : Bool} {col_BadReader : Option Bool} {dd_BadReader : Option Addr} {m0_BadReader m1_BadReader m2_BadReader m3_BadReader m5_BadReader : Option Value}
    {nm_BadRow q_BadRow : Str} {N_BadRow : Addr} {bs_BadRow bm_BadRow : List Value} {sn_BadRow : List Str} {sub_BadRow : List Value} {ab_BadRow : Bool} {col_BadRow : Option Bool} {dd_BadRow : Option Addr} {m0_BadRow m1_BadRow m2_BadRow m3_BadRow m5_BadRow : Option Value}
    {t_SIGNS t_MARK_SIGNS t_MOST_LEVELS t_MOST_ROW t_MOST_READER : Tok}
    {D5 : Addr} {oD5 : Value} {dD5 : Option Addr} {nD5 : Nat} {sD5 : Array (Option Value)} {td5_0 : Tok}
    {D2 : Addr} {oD2 : Value} {dD2 : Option Addr} {nD2 : Nat} {sD2 : Array (Option Value)} {td2_0 : Tok}
    (a1 : PySem.W.nsIn K mainGlobals "is_integer" = some (some (.ref f1)))
    (l1 : K.lookup f1 = some ⟨oc1, od1, .func (PySem.W.fnOf "is_integer" "is_integer" (defArgs s_is_integer) (defBody s_is_integer) (defScope s_is_integer) .none kV1 dc1 pm1 an1 cd1 ct1), sl1⟩)
    (c1 : PySem.W.codeIn K cd1 "is_integer" = true)
    (k1 : PySem.W.keepIn K (.ref f1) = true)
    (a2 : PySem.W.nsIn K mainGlobals "deep" = some (some (.ref f2)))
    (l2 : K.lookup f2 = some ⟨oc2, od2, .func (PySem.W.fnOf "deep" "deep" (defArgs s_deep) (defBody s_deep) (defScope s_deep) (.ref D2) kV2 dc2 pm2 an2 cd2 ct2), sl2⟩)
    (c2 : PySem.W.codeIn K cd2 "deep" = true)
    (k2 : PySem.W.keepIn K (.ref f2) = true)
    (e2 : K.lookup D2 = some ⟨oD2, dD2, .seq #[.int (0) td2_0] nD2, sD2⟩)
    (a3 : PySem.W.nsIn K mainGlobals "wrong_sign" = some (some (.ref f3)))
    (l3 : K.lookup f3 = some ⟨oc3, od3, .func (PySem.W.fnOf "wrong_sign" "wrong_sign" (defArgs s_wrong_sign) (defBody s_wrong_sign) (defScope s_wrong_sign) .none kV3 dc3 pm3 an3 cd3 ct3), sl3⟩)
    (c3 : PySem.W.codeIn K cd3 "wrong_sign" = true)
    (k3 : PySem.W.keepIn K (.ref f3) = true)
    (a4 : PySem.W.nsIn K mainGlobals "is_mark" = some (some (.ref f4)))
    (l4 : K.lookup f4 = some ⟨oc4, od4, .func (PySem.W.fnOf "is_mark" "is_mark" (defArgs s_is_mark) (defBody s_is_mark) (defScope s_is_mark) .none kV4 dc4 pm4 an4 cd4 ct4), sl4⟩)
    (c4 : PySem.W.codeIn K cd4 "is_mark" = true)
    (k4 : PySem.W.keepIn K (.ref f4) = true)
    (a5 : PySem.W.nsIn K mainGlobals "check_row" = some (some (.ref f5)))
    (l5 : K.lookup f5 = some ⟨oc5, od5, .func (PySem.W.fnOf "check_row" "check_row" (defArgs s_check_row) (defBody s_check_row) (defScope s_check_row) (.ref D5) kV5 dc5 pm5 an5 cd5 ct5), sl5⟩)
    (c5 : PySem.W.codeIn K cd5 "check_row" = true)
    (k5 : PySem.W.keepIn K (.ref f5) = true)
    (e5 : K.lookup D5 = some ⟨oD5, dD5, .seq #[.int (400) td5_0] nD5, sD5⟩)
    (a6 : PySem.W.nsIn K mainGlobals "is_reader_state" = some (some (.ref f6)))
    (l6 : K.lookup f6 = some ⟨oc6, od6, .func (PySem.W.fnOf "is_reader_state" "is_reader_state" (defArgs s_is_reader_state) (defBody s_is_reader_state) (defScope s_is_reader_state) .none kV6 dc6 pm6 an6 cd6 ct6), sl6⟩)
    (c6 : PySem.W.codeIn K cd6 "is_reader_state" = true)
    (k6 : PySem.W.keepIn K (.ref f6) = true)
    (a7 : PySem.W.findIn K (.ref C_Reader) "__init__" = some (some (.ref f7)))
    (i7 : PySem.W.isFn K (.ref f7) = true)
    (l7 : K.lookup f7 = some ⟨oc7, od7, .func (PySem.W.fnOf "__init__" "Reader.__init__" (defArgs s_Reader___init__) (defBody s_Reader___init__) (defScope s_Reader___init__) .none kV7 dc7 pm7 an7 cd7 ct7), sl7⟩)
    (c7 : PySem.W.codeIn K cd7 "Reader.__init__" = true)
    (k7 : PySem.W.keepIn K (.ref f7) = true)
    (a8 : PySem.W.findIn K (.ref C_Reader) "__len__" = some (some (.ref f8)))
    (i8 : PySem.W.isFn K (.ref f8) = true)
    (l8 : K.lookup f8 = some ⟨oc8, od8, .func (PySem.W.fnOf "__len__" "Reader.__len__" (defArgs s_Reader___len__) (defBody s_Reader___len__) (defScope s_Reader___len__) .none kV8 dc8 pm8 an8 cd8 ct8), sl8⟩)
    (c8 : PySem.W.codeIn K cd8 "Reader.__len__" = true)
    (k8 : PySem.W.keepIn K (.ref f8) = true)
    (a9 : PySem.W.findIn K (.ref C_Reader) "__iter__" = some (some (.ref f9)))
    (i9 : PySem.W.isFn K (.ref f9) = true)
    (l9 : K.lookup f9 = some ⟨oc9, od9, .func (PySem.W.fnOf "__iter__" "Reader.__iter__" (defArgs s_Reader___iter__) (defBody s_Reader___iter__) (defScope s_Reader___iter__) .none kV9 dc9 pm9 an9 cd9 ct9), sl9⟩)
    (c9 : PySem.W.codeIn K cd9 "Reader.__iter__" = true)
    (k9 : PySem.W.keepIn K (.ref f9) = true)
    (a10 : PySem.W.findIn K (.ref C_Reader) "__eq__" = some (some (.ref f10)))
    (i10 : PySem.W.isFn K (.ref f10) = true)
    (l10 : K.lookup f10 = some ⟨oc10, od10, .func (PySem.W.fnOf "__eq__" "Reader.__eq__" (defArgs s_Reader___eq__) (defBody s_Reader___eq__) (defScope s_Reader___eq__) .none kV10 dc10 pm10 an10 cd10 ct10), sl10⟩)
    (c10 : PySem.W.codeIn K cd10 "Reader.__eq__" = true)
    (k10 : PySem.W.keepIn K (.ref f10) = true)
    (a11 : PySem.W.findIn K (.ref C_Reader) "__call__" = some (some (.ref f11)))
    (i11 : PySem.W.isFn K (.ref f11) = true)
    (l11 : K.lookup f11 = some ⟨oc11, od11, .func (PySem.W.fnOf "__call__" "Reader.__call__" (defArgs s_Reader___call__) (defBody s_Reader___call__) (defScope s_Reader___call__) .none kV11 dc11 pm11 an11 cd11 ct11), sl11⟩)
    (c11 : PySem.W.codeIn K cd11 "Reader.__call__" = true)
    (k11 : PySem.W.keepIn K (.ref f11) = true)
    (a12 : PySem.W.nsIn K mainGlobals "words_at" = some (some (.ref f12)))
    (l12 : K.lookup f12 = some ⟨oc12, od12, .func (PySem.W.fnOf "words_at" "words_at" (defArgs s_words_at) (defBody s_words_at) (defScope s_words_at) .none kV12 dc12 pm12 an12 cd12 ct12), sl12⟩)
    (c12 : PySem.W.codeIn K cd12 "words_at" = true)
    (k12 : PySem.W.keepIn K (.ref f12) = true)
    (a13 : PySem.W.nsIn K mainGlobals "pair_behind" = some (some (.ref f13)))
    (l13 : K.lookup f13 = some ⟨oc13, od13, .func (PySem.W.fnOf "pair_behind" "pair_behind" (defArgs s_pair_behind) (defBody s_pair_behind) (defScope s_pair_behind) .none kV13 dc13 pm13 an13 cd13 ct13), sl13⟩)
    (c13 : PySem.W.codeIn K cd13 "pair_behind" = true)
    (k13 : PySem.W.keepIn K (.ref f13) = true)
    (a14 : PySem.W.nsIn K mainGlobals "is_state_pair" = some (some (.ref f14)))
    (l14 : K.lookup f14 = some ⟨oc14, od14, .func (PySem.W.fnOf "is_state_pair" "is_state_pair" (defArgs s_is_state_pair) (defBody s_is_state_pair) (defScope s_is_state_pair) .none kV14 dc14 pm14 an14 cd14 ct14), sl14⟩)
    (c14 : PySem.W.codeIn K cd14 "is_state_pair" = true)
    (k14 : PySem.W.keepIn K (.ref f14) = true)
    (a15 : PySem.W.nsIn K mainGlobals "is_right_row" = some (some (.ref f15)))
    (l15 : K.lookup f15 = some ⟨oc15, od15, .func (PySem.W.fnOf "is_right_row" "is_right_row" (defArgs s_is_right_row) (defBody s_is_right_row) (defScope s_is_right_row) .none kV15 dc15 pm15 an15 cd15 ct15), sl15⟩)
    (c15 : PySem.W.codeIn K cd15 "is_right_row" = true)
    (k15 : PySem.W.keepIn K (.ref f15) = true)
    (a16 : PySem.W.nsIn K mainGlobals "judge_readers" = some (some (.ref f16)))
    (l16 : K.lookup f16 = some ⟨oc16, od16, .func (PySem.W.fnOf "judge_readers" "judge_readers" (defArgs s_judge_readers) (defBody s_judge_readers) (defScope s_judge_readers) .none kV16 dc16 pm16 an16 cd16 ct16), sl16⟩)
    (c16 : PySem.W.codeIn K cd16 "judge_readers" = true)
    (k16 : PySem.W.keepIn K (.ref f16) = true)
    (a17 : PySem.W.nsIn K mainGlobals "_law_draw" = some (some (.ref f17)))
    (l17 : K.lookup f17 = some ⟨oc17, od17, .func (PySem.W.fnOf "_law_draw" "_law_draw" (defArgs s_L_draw) (defBody s_L_draw) (defScope s_L_draw) .none kV17 dc17 pm17 an17 cd17 ct17), sl17⟩)
    (c17 : PySem.W.codeIn K cd17 "_law_draw" = true)
    (k17 : PySem.W.keepIn K (.ref f17) = true)
    (a18 : PySem.W.nsIn K mainGlobals "_law_mix" = some (some (.ref f18)))
    (l18 : K.lookup f18 = some ⟨oc18, od18, .func (PySem.W.fnOf "_law_mix" "_law_mix" (defArgs s_L_mix) (defBody s_L_mix) (defScope s_L_mix) .none kV18 dc18 pm18 an18 cd18 ct18), sl18⟩)
    (c18 : PySem.W.codeIn K cd18 "_law_mix" = true)
    (k18 : PySem.W.keepIn K (.ref f18) = true)
    (a19 : PySem.W.nsIn K mainGlobals "_law_pick" = some (some (.ref f19)))
    (l19 : K.lookup f19 = some ⟨oc19, od19, .func (PySem.W.fnOf "_law_pick" "_law_pick" (defArgs s_L_pick) (defBody s_L_pick) (defScope s_L_pick) .none kV19 dc19 pm19 an19 cd19 ct19), sl19⟩)
    (c19 : PySem.W.codeIn K cd19 "_law_pick" = true)
    (k19 : PySem.W.keepIn K (.ref f19) = true)
    (a20 : PySem.W.nsIn K mainGlobals "_law_is_int" = some (some (.ref f20)))
    (l20 : K.lookup f20 = some ⟨oc20, od20, .func (PySem.W.fnOf "_law_is_int" "_law_is_int" (defArgs s_L_is_int) (defBody s_L_is_int) (defScope s_L_is_int) .none kV20 dc20 pm20 an20 cd20 ct20), sl20⟩)
    (c20 : PySem.W.codeIn K cd20 "_law_is_int" = true)
    (k20 : PySem.W.keepIn K (.ref f20) = true)
    (a21 : PySem.W.nsIn K mainGlobals "_law_name" = some (some (.ref f21)))
    (l21 : K.lookup f21 = some ⟨oc21, od21, .func (PySem.W.fnOf "_law_name" "_law_name" (defArgs s_L_name) (defBody s_L_name) (defScope s_L_name) .none kV21 dc21 pm21 an21 cd21 ct21), sl21⟩)
    (c21 : PySem.W.codeIn K cd21 "_law_name" = true)
    (k21 : PySem.W.keepIn K (.ref f21) = true)
    (a22 : PySem.W.nsIn K mainGlobals "_law_names" = some (some (.ref f22)))
    (l22 : K.lookup f22 = some ⟨oc22, od22, .func (PySem.W.fnOf "_law_names" "_law_names" (defArgs s_L_names) (defBody s_L_names) (defScope s_L_names) .none kV22 dc22 pm22 an22 cd22 ct22), sl22⟩)
    (c22 : PySem.W.codeIn K cd22 "_law_names" = true)
    (k22 : PySem.W.keepIn K (.ref f22) = true)
    (a23 : PySem.W.nsIn K mainGlobals "_law_signs" = some (some (.ref f23)))
    (l23 : K.lookup f23 = some ⟨oc23, od23, .func (PySem.W.fnOf "_law_signs" "_law_signs" (defArgs s_L_signs) (defBody s_L_signs) (defScope s_L_signs) .none kV23 dc23 pm23 an23 cd23 ct23), sl23⟩)
    (c23 : PySem.W.codeIn K cd23 "_law_signs" = true)
    (k23 : PySem.W.keepIn K (.ref f23) = true)
    (a24 : PySem.W.nsIn K mainGlobals "_law_order" = some (some (.ref f24)))
    (l24 : K.lookup f24 = some ⟨oc24, od24, .func (PySem.W.fnOf "_law_order" "_law_order" (defArgs s_L_order) (defBody s_L_order) (defScope s_L_order) .none kV24 dc24 pm24 an24 cd24 ct24), sl24⟩)
    (c24 : PySem.W.codeIn K cd24 "_law_order" = true)
    (k24 : PySem.W.keepIn K (.ref f24) = true)
    (a25 : PySem.W.nsIn K mainGlobals "_law_lines" = some (some (.ref f25)))
    (l25 : K.lookup f25 = some ⟨oc25, od25, .func (PySem.W.fnOf "_law_lines" "_law_lines" (defArgs s_L_lines) (defBody s_L_lines) (defScope s_L_lines) .none kV25 dc25 pm25 an25 cd25 ct25), sl25⟩)
    (c25 : PySem.W.codeIn K cd25 "_law_lines" = true)
    (k25 : PySem.W.keepIn K (.ref f25) = true)
    (a26 : PySem.W.nsIn K mainGlobals "_law_settled" = some (some (.ref f26)))
    (l26 : K.lookup f26 = some ⟨oc26, od26, .func (PySem.W.fnOf "_law_settled" "_law_settled" (defArgs s_L_settled) (defBody s_L_settled) (defScope s_L_settled) .none kV26 dc26 pm26 an26 cd26 ct26), sl26⟩)
    (c26 : PySem.W.codeIn K cd26 "_law_settled" = true)
    (k26 : PySem.W.keepIn K (.ref f26) = true)
    (a27 : PySem.W.nsIn K mainGlobals "_law_stepped" = some (some (.ref f27)))
    (l27 : K.lookup f27 = some ⟨oc27, od27, .func (PySem.W.fnOf "_law_stepped" "_law_stepped" (defArgs s_L_stepped) (defBody s_L_stepped) (defScope s_L_stepped) .none kV27 dc27 pm27 an27 cd27 ct27), sl27⟩)
    (c27 : PySem.W.codeIn K cd27 "_law_stepped" = true)
    (k27 : PySem.W.keepIn K (.ref f27) = true)
    (a28 : PySem.W.nsIn K mainGlobals "_law_rows_of" = some (some (.ref f28)))
    (l28 : K.lookup f28 = some ⟨oc28, od28, .func (PySem.W.fnOf "_law_rows_of" "_law_rows_of" (defArgs s_L_rows_of) (defBody s_L_rows_of) (defScope s_L_rows_of) .none kV28 dc28 pm28 an28 cd28 ct28), sl28⟩)
    (c28 : PySem.W.codeIn K cd28 "_law_rows_of" = true)
    (k28 : PySem.W.keepIn K (.ref f28) = true)
    (a29 : PySem.W.nsIn K mainGlobals "_law_reader" = some (some (.ref f29)))
    (l29 : K.lookup f29 = some ⟨oc29, od29, .func (PySem.W.fnOf "_law_reader" "_law_reader" (defArgs s_L_reader) (defBody s_L_reader) (defScope s_L_reader) .none kV29 dc29 pm29 an29 cd29 ct29), sl29⟩)
    (c29 : PySem.W.codeIn K cd29 "_law_reader" = true)
    (k29 : PySem.W.keepIn K (.ref f29) = true)
    (a30 : PySem.W.nsIn K mainGlobals "_law_twin" = some (some (.ref f30)))
    (l30 : K.lookup f30 = some ⟨oc30, od30, .func (PySem.W.fnOf "_law_twin" "_law_twin" (defArgs s_L_twin) (defBody s_L_twin) (defScope s_L_twin) .none kV30 dc30 pm30 an30 cd30 ct30), sl30⟩)
    (c30 : PySem.W.codeIn K cd30 "_law_twin" = true)
    (k30 : PySem.W.keepIn K (.ref f30) = true)
    (a31 : PySem.W.nsIn K mainGlobals "_law_changed" = some (some (.ref f31)))
    (l31 : K.lookup f31 = some ⟨oc31, od31, .func (PySem.W.fnOf "_law_changed" "_law_changed" (defArgs s_L_changed) (defBody s_L_changed) (defScope s_L_changed) .none kV31 dc31 pm31 an31 cd31 ct31), sl31⟩)
    (c31 : PySem.W.codeIn K cd31 "_law_changed" = true)
    (k31 : PySem.W.keepIn K (.ref f31) = true)
    (a32 : PySem.W.nsIn K mainGlobals "_law_two" = some (some (.ref f32)))
    (l32 : K.lookup f32 = some ⟨oc32, od32, .func (PySem.W.fnOf "_law_two" "_law_two" (defArgs s_L_two) (defBody s_L_two) (defScope s_L_two) .none kV32 dc32 pm32 an32 cd32 ct32), sl32⟩)
    (c32 : PySem.W.codeIn K cd32 "_law_two" = true)
    (k32 : PySem.W.keepIn K (.ref f32) = true)
    (a33 : PySem.W.nsIn K mainGlobals "_law_compared" = some (some (.ref f33)))
    (l33 : K.lookup f33 = some ⟨oc33, od33, .func (PySem.W.fnOf "_law_compared" "_law_compared" (defArgs s_L_compared) (defBody s_L_compared) (defScope s_L_compared) .none kV33 dc33 pm33 an33 cd33 ct33), sl33⟩)
    (c33 : PySem.W.codeIn K cd33 "_law_compared" = true)
    (k33 : PySem.W.keepIn K (.ref f33) = true)
    (a34 : PySem.W.nsIn K mainGlobals "_law_is_pair" = some (some (.ref f34)))
    (l34 : K.lookup f34 = some ⟨oc34, od34, .func (PySem.W.fnOf "_law_is_pair" "_law_is_pair" (defArgs s_L_is_pair) (defBody s_L_is_pair) (defScope s_L_is_pair) .none kV34 dc34 pm34 an34 cd34 ct34), sl34⟩)
    (c34 : PySem.W.codeIn K cd34 "_law_is_pair" = true)
    (k34 : PySem.W.keepIn K (.ref f34) = true)
    (a35 : PySem.W.nsIn K mainGlobals "_law_is_closed" = some (some (.ref f35)))
    (l35 : K.lookup f35 = some ⟨oc35, od35, .func (PySem.W.fnOf "_law_is_closed" "_law_is_closed" (defArgs s_L_is_closed) (defBody s_L_is_closed) (defScope s_L_is_closed) .none kV35 dc35 pm35 an35 cd35 ct35), sl35⟩)
    (c35 : PySem.W.codeIn K cd35 "_law_is_closed" = true)
    (k35 : PySem.W.keepIn K (.ref f35) = true)
    (a36 : PySem.W.nsIn K mainGlobals "_law_judged" = some (some (.ref f36)))
    (l36 : K.lookup f36 = some ⟨oc36, od36, .func (PySem.W.fnOf "_law_judged" "_law_judged" (defArgs s_L_judged) (defBody s_L_judged) (defScope s_L_judged) .none kV36 dc36 pm36 an36 cd36 ct36), sl36⟩)
    (c36 : PySem.W.codeIn K cd36 "_law_judged" = true)
    (k36 : PySem.W.keepIn K (.ref f36) = true)
    (a37 : PySem.W.nsIn K mainGlobals "_law_odd_row" = some (some (.ref f37)))
    (l37 : K.lookup f37 = some ⟨oc37, od37, .func (PySem.W.fnOf "_law_odd_row" "_law_odd_row" (defArgs s_L_odd_row) (defBody s_L_odd_row) (defScope s_L_odd_row) .none kV37 dc37 pm37 an37 cd37 ct37), sl37⟩)
    (c37 : PySem.W.codeIn K cd37 "_law_odd_row" = true)
    (k37 : PySem.W.keepIn K (.ref f37) = true)
    (a38 : PySem.W.nsIn K mainGlobals "_law_spoilt" = some (some (.ref f38)))
    (l38 : K.lookup f38 = some ⟨oc38, od38, .func (PySem.W.fnOf "_law_spoilt" "_law_spoilt" (defArgs s_L_spoilt) (defBody s_L_spoilt) (defScope s_L_spoilt) .none kV38 dc38 pm38 an38 cd38 ct38), sl38⟩)
    (c38 : PySem.W.codeIn K cd38 "_law_spoilt" = true)
    (k38 : PySem.W.keepIn K (.ref f38) = true)
    (a39 : PySem.W.nsIn K mainGlobals "law" = some (some (.ref f39)))
    (l39 : K.lookup f39 = some ⟨oc39, od39, .func (PySem.W.fnOf "law" "law" (defArgs s_law) (defBody s_law) (defScope s_law) .none kV39 dc39 pm39 an39 cd39 ct39), sl39⟩)
    (c39 : PySem.W.codeIn K cd39 "law" = true)
    (k39 : PySem.W.keepIn K (.ref f39) = true)
    (wpg_Reader : PySem.W.plainGet K C_Reader Str.empty = true)
    (whd_Reader : PySem.W.hasDictIn K C_Reader = true)
    (wpo_Reader : PySem.W.plainOver K C_Reader = true)
    (wsa_Reader : PySem.W.findIn K (.ref C_Reader) "__setattr__" = some (some (.builtin "object.__setattr__")))
    (wmk_Reader : PySem.W.makesIn K C_Reader = true)
    (wkc_Reader : PySem.W.keepIn K (.ref C_Reader) = true)
    (wca_Reader : PySem.W.findIn K (.ref C_Reader) "__class__" = some (some (.builtin "object.__class__")))
    (wmo_Reader : PySem.W.mroIn K C_Reader (.type "object") = some true)
    (wnt_Reader : PySem.W.notFirst K C_Reader (.type "tuple") = true)
    (wst_Reader : PySem.W.subIn K (.ref C_Reader) (.type "tuple") = some false)
    (wna_Reader_rows : PySem.W.findIn K (.ref C_Reader) "rows" = some none)
    (z_abs : PySem.W.nsIn K mainGlobals "abs" = some none)
    (z_bool : PySem.W.nsIn K mainGlobals "bool" = some none)
    (z_enumerate : PySem.W.nsIn K mainGlobals "enumerate" = some none)
    (z_int : PySem.W.nsIn K mainGlobals "int" = some none)
    (z_isinstance : PySem.W.nsIn K mainGlobals "isinstance" = some none)
    (z_iter : PySem.W.nsIn K mainGlobals "iter" = some none)
    (z_len : PySem.W.nsIn K mainGlobals "len" = some none)
    (z_list : PySem.W.nsIn K mainGlobals "list" = some none)
    (z_min : PySem.W.nsIn K mainGlobals "min" = some none)
    (z_range : PySem.W.nsIn K mainGlobals "range" = some none)
    (z_repr : PySem.W.nsIn K mainGlobals "repr" = some none)
    (z_str : PySem.W.nsIn K mainGlobals "str" = some none)
    (z_sum : PySem.W.nsIn K mainGlobals "sum" = some none)
    (z_tuple : PySem.W.nsIn K mainGlobals "tuple" = some none)
    (v_SIGNS : PySem.W.nsIn K mainGlobals "SIGNS" = some (some (.str ".grw" t_SIGNS)))
    (v_MARK_SIGNS : PySem.W.nsIn K mainGlobals "MARK_SIGNS" = some (some (.str "abcdefghijklmnopqrstuvwxyz0123456789" t_MARK_SIGNS)))
    (v_MOST_LEVELS : PySem.W.nsIn K mainGlobals "MOST_LEVELS" = some (some (.int (70) t_MOST_LEVELS)))
    (v_MOST_ROW : PySem.W.nsIn K mainGlobals "MOST_ROW" = some (some (.int (400) t_MOST_ROW)))
    (v_MOST_READER : PySem.W.nsIn K mainGlobals "MOST_READER" = some (some (.int (400) t_MOST_READER)))
    (g_GlimError : PySem.W.nsIn K mainGlobals "GlimError" = some (some (.ref C_GlimError)))
    (g_BadRow : PySem.W.nsIn K mainGlobals "BadRow" = some (some (.ref C_BadRow)))
    (g_BadReader : PySem.W.nsIn K mainGlobals "BadReader" = some (some (.ref C_BadReader)))
    (g_Reader : PySem.W.nsIn K mainGlobals "Reader" = some (some (.ref C_Reader)))
    (xl_BadRow : K.lookup C_BadRow = some (excClassObj nm_BadRow q_BadRow C_BadRow N_BadRow bs_BadRow bm_BadRow true sn_BadRow sub_BadRow ab_BadRow col_BadRow dd_BadRow m0_BadRow m1_BadRow m2_BadRow m3_BadRow m5_BadRow "ValueError.__new__"))
    (xr_BadRow : PySem.HandSPX.refsVE bm_BadRow = true)
    (xsa_BadRow : PySem.W.findIn K (.ref C_BadRow) "__setattr__" = some (some (.builtin "object.__setattr__")))
    (xga_BadRow : PySem.W.findIn K (.ref C_BadRow) "__getattribute__" = some (some (.builtin "BaseException.__getattribute__")))
    (xgg_BadRow : PySem.W.findIn K (.ref C_BadRow) "__getattr__" = some none)
    (xnf_BadRow_number : PySem.W.findIn K (.ref C_BadRow) "number" = some none)
    (xi_BadRow : PySem.W.findIn K (.ref C_BadRow) "__init__" = some (some (.ref f40)))
    (xt_BadRow : PySem.W.typeIn K (.ref f40) = some (.type "function"))
    (xf_BadRow : K.lookup f40 = some ⟨oc40, od40, .func (PySem.W.fnOf "__init__" "BadRow.__init__" (defArgs s_BadRow) (defBody s_BadRow) (defScope s_BadRow) .none kV40 dc40 pm40 an40 cd40 ct40), sl40⟩)
    (xc_BadRow : PySem.W.codeIn K cd40 "BadRow.__init__" = true)
    (xkf_BadRow : PySem.W.keepIn K (.ref f40) = true)
    (xk_BadRow : PySem.W.keepIn K (.ref C_BadRow) = true)
    (xe_BadRow : PySem.W.subIn K (.ref C_BadRow) (.type "BaseException") = some true)
    (xty_BadRow : PySem.W.typeIn K (.ref C_BadRow) = some (.type "type"))
    (xhd_BadRow : PySem.W.hasDictIn K C_BadRow = true)
    (xis_BadRow : PySem.W.isClsIn K C_BadRow = true)
    (xca_BadRow : PySem.W.findIn K (.ref C_BadRow) "__class__" = some (some (.builtin "object.__class__")))
    (xm_BadRow : PySem.W.mroIn K C_BadRow (.type "object") = some true)
    (xl_BadReader : K.lookup C_BadReader = some (excClassObj nm_BadReader q_BadReader C_BadReader N_BadReader bs_BadReader bm_BadReader true sn_BadReader sub_BadReader ab_BadReader col_BadReader dd_BadReader m0_BadReader m1_BadReader m2_BadReader m3_BadReader m5_BadReader "ValueError.__new__"))
    (xr_BadReader : PySem.HandSPX.refsVE bm_BadReader = true)
    (xsa_BadReader : PySem.W.findIn K (.ref C_BadReader) "__setattr__" = some (some (.builtin "object.__setattr__")))
    (xga_BadReader : PySem.W.findIn K (.ref C_BadReader) "__getattribute__" = some (some (.builtin "BaseException.__getattribute__")))
    (xgg_BadReader : PySem.W.findIn K (.ref C_BadReader) "__getattr__" = some none)
    (xnf_BadReader_number : PySem.W.findIn K (.ref C_BadReader) "number" = some none)
    (xi_BadReader : PySem.W.findIn K (.ref C_BadReader) "__init__" = some (some (.ref f41)))
    (xt_BadReader : PySem.W.typeIn K (.ref f41) = some (.type "function"))
    (xf_BadReader : K.lookup f41 = some ⟨oc41, od41, .func (PySem.W.fnOf "__init__" "BadReader.__init__" (defArgs s_BadReader) (defBody s_BadReader) (defScope s_BadReader) .none kV41 dc41 pm41 an41 cd41 ct41), sl41⟩)
    (xc_BadReader : PySem.W.codeIn K cd41 "BadReader.__init__" = true)
    (xkf_BadReader : PySem.W.keepIn K (.ref f41) = true)
    (xk_BadReader : PySem.W.keepIn K (.ref C_BadReader) = true)
    (xe_BadReader : PySem.W.subIn K (.ref C_BadReader) (.type "BaseException") = some true)
    (xty_BadReader : PySem.W.typeIn K (.ref C_BadReader) = some (.type "type"))
    (xhd_BadReader : PySem.W.hasDictIn K C_BadReader = true)
    (xis_BadReader : PySem.W.isClsIn K C_BadReader = true)
    (xca_BadReader : PySem.W.findIn K (.ref C_BadReader) "__class__" = some (some (.builtin "object.__class__")))
    (xm_BadReader : PySem.W.mroIn K C_BadReader (.type "object") = some true)
    (xsp : PySem.W.specialIn K (.builtin "object.__class__") "__get__" = some (some (.builtin "getset_descriptor.__get__")))
    (xtk : PySem.W.takesIn K (.builtin "object.__class__") = some true)
    (qi_Reader : PySem.W.isClsIn K C_Reader = true)
    (qt_Reader : PySem.W.typeIn K (.ref C_Reader) = some (.type "type"))
    (qs_Reader : PySem.W.subIn K (.ref C_Reader) (.ref C_Reader) = some true)
    (y_Reader_Reader : PySem.W.subIn K (.ref C_Reader) (.ref C_Reader) = some true)
    (y_tuple_Reader : PySem.W.subIn K (.type "tuple") (.ref C_Reader) = some false)
    : ∃ fd : FuncData, (∀ (s : Shared) (v : Value), BindsTo s fd ⟨[v], []⟩ [("_law_script", v)]) ∧ ∀ base : Heap, K.In base → base.Ns mainGlobals mg → GOk l.prog w K mg base CX0 9 fa fd ["_law_script"] (sp1 (p_law K)) := by
  have e := hfa.symm.trans (PySem.W.mg_of X G a39)
  cases e
  have F1 := fun_mk (st := s_is_integer) l1 c1 k1
  have F2 : FunD K "deep" "deep" (defArgs s_deep) (defBody s_deep) (defScope s_deep) [.int (0)] [] f2 _ := ⟨⟨_, _, _, _, _, _, _, _, _, _, rfl, l2, c2, (.inr ⟨by simp, D2, _, _, _, rfl, e2, rfl, (.cons ⟨_, rfl⟩ .nil)⟩), .inl rfl⟩, k2⟩
  have E2 := FunD.binds1 (ps := ["thing", "level"]) F2 1 0 (by simp) rfl fun _ _ _ _ _ _ _ us its h1 h2 => match us, its, h1, h2 with | [_], [_], _, _ => ⟨_, rfl, rfl⟩
  have B2 := FunD.binds1 (ps := ["thing", "level"]) F2 2 1 (by simp) rfl fun _ _ _ _ _ _ _ us its h1 h2 => match us, its, h1, h2 with | [_, _], [_], _, _ => ⟨_, rfl, rfl⟩
  have B2 : Binds K _ ["thing", "level"] [] := (by obtain ⟨ds, h1, h2⟩ := B2; cases h1; exact h2)
  have F3 := fun_mk (st := s_wrong_sign) l3 c3 k3
  have F4 := fun_mk (st := s_is_mark) l4 c4 k4
  have F5 : FunD K "check_row" "check_row" (defArgs s_check_row) (defBody s_check_row) (defScope s_check_row) [.int (400)] [] f5 _ := ⟨⟨_, _, _, _, _, _, _, _, _, _, rfl, l5, c5, (.inr ⟨by simp, D5, _, _, _, rfl, e5, rfl, (.cons ⟨_, rfl⟩ .nil)⟩), .inl rfl⟩, k5⟩
  have E5 := FunD.binds1 (ps := ["thing", "most"]) F5 1 0 (by simp) rfl fun _ _ _ _ _ _ _ us its h1 h2 => match us, its, h1, h2 with | [_], [_], _, _ => ⟨_, rfl, rfl⟩
  have B5 := FunD.binds1 (ps := ["thing", "most"]) F5 2 1 (by simp) rfl fun _ _ _ _ _ _ _ us its h1 h2 => match us, its, h1, h2 with | [_, _], [_], _, _ => ⟨_, rfl, rfl⟩
  have B5 : Binds K _ ["thing", "most"] [] := (by obtain ⟨ds, h1, h2⟩ := B5; cases h1; exact h2)
  have F6 := fun_mk (st := s_is_reader_state) l6 c6 k6
  have F7 : FunD K "__init__" "Reader.__init__" (defArgs s_Reader___init__) (defBody s_Reader___init__) (defScope s_Reader___init__) [] [] f7 _ := ⟨⟨_, _, _, _, _, _, _, _, _, _, rfl, l7, c7, (.inl ⟨rfl, rfl⟩), .inl rfl⟩, k7⟩
  have B7 : Binds K _ ["self", "rows"] [] := FunD.bindsN (ps := ["self", "rows"]) F7 fun _ _ _ _ _ _ us hl => match us, hl with | [_, _], _ => rfl
  have E7 : ∃ ds, Vals [] ds ∧ Binds K _ ["self", "rows"] ds := ⟨[], .nil, B7⟩
  have F8 : FunD K "__len__" "Reader.__len__" (defArgs s_Reader___len__) (defBody s_Reader___len__) (defScope s_Reader___len__) [] [] f8 _ := ⟨⟨_, _, _, _, _, _, _, _, _, _, rfl, l8, c8, (.inl ⟨rfl, rfl⟩), .inl rfl⟩, k8⟩
  have B8 : Binds K _ ["self"] [] := FunD.bindsN (ps := ["self"]) F8 fun _ _ _ _ _ _ us hl => match us, hl with | [_], _ => rfl
  have E8 : ∃ ds, Vals [] ds ∧ Binds K _ ["self"] ds := ⟨[], .nil, B8⟩
  have F9 : FunD K "__iter__" "Reader.__iter__" (defArgs s_Reader___iter__) (defBody s_Reader___iter__) (defScope s_Reader___iter__) [] [] f9 _ := ⟨⟨_, _, _, _, _, _, _, _, _, _, rfl, l9, c9, (.inl ⟨rfl, rfl⟩), .inl rfl⟩, k9⟩
  have B9 : Binds K _ ["self"] [] := FunD.bindsN (ps := ["self"]) F9 fun _ _ _ _ _ _ us hl => match us, hl with | [_], _ => rfl
  have E9 : ∃ ds, Vals [] ds ∧ Binds K _ ["self"] ds := ⟨[], .nil, B9⟩
  have F10 : FunD K "__eq__" "Reader.__eq__" (defArgs s_Reader___eq__) (defBody s_Reader___eq__) (defScope s_Reader___eq__) [] [] f10 _ := ⟨⟨_, _, _, _, _, _, _, _, _, _, rfl, l10, c10, (.inl ⟨rfl, rfl⟩), .inl rfl⟩, k10⟩
  have B10 : Binds K _ ["self", "other"] [] := FunD.bindsN (ps := ["self", "other"]) F10 fun _ _ _ _ _ _ us hl => match us, hl with | [_, _], _ => rfl
  have E10 : ∃ ds, Vals [] ds ∧ Binds K _ ["self", "other"] ds := ⟨[], .nil, B10⟩
  have F11 : FunD K "__call__" "Reader.__call__" (defArgs s_Reader___call__) (defBody s_Reader___call__) (defScope s_Reader___call__) [] [] f11 _ := ⟨⟨_, _, _, _, _, _, _, _, _, _, rfl, l11, c11, (.inl ⟨rfl, rfl⟩), .inl rfl⟩, k11⟩
  have B11 : Binds K _ ["self", "look"] [] := FunD.bindsN (ps := ["self", "look"]) F11 fun _ _ _ _ _ _ us hl => match us, hl with | [_, _], _ => rfl
  have E11 : ∃ ds, Vals [] ds ∧ Binds K _ ["self", "look"] ds := ⟨[], .nil, B11⟩
  have F12 := fun_mk (st := s_words_at) l12 c12 k12
  have F13 := fun_mk (st := s_pair_behind) l13 c13 k13
  have F14 := fun_mk (st := s_is_state_pair) l14 c14 k14
  have F15 := fun_mk (st := s_is_right_row) l15 c15 k15
  have F16 := fun_mk (st := s_judge_readers) l16 c16 k16
  have F17 := fun_mk (st := s_L_draw) l17 c17 k17
  have F18 := fun_mk (st := s_L_mix) l18 c18 k18
  have F19 := fun_mk (st := s_L_pick) l19 c19 k19
  have F20 := fun_mk (st := s_L_is_int) l20 c20 k20
  have F21 := fun_mk (st := s_L_name) l21 c21 k21
  have F22 := fun_mk (st := s_L_names) l22 c22 k22
  have F23 := fun_mk (st := s_L_signs) l23 c23 k23
  have F24 := fun_mk (st := s_L_order) l24 c24 k24
  have F25 := fun_mk (st := s_L_lines) l25 c25 k25
  have F26 := fun_mk (st := s_L_settled) l26 c26 k26
  have F27 := fun_mk (st := s_L_stepped) l27 c27 k27
  have F28 := fun_mk (st := s_L_rows_of) l28 c28 k28
  have F29 := fun_mk (st := s_L_reader) l29 c29 k29
  have F30 := fun_mk (st := s_L_twin) l30 c30 k30
  have F31 := fun_mk (st := s_L_changed) l31 c31 k31
  have F32 := fun_mk (st := s_L_two) l32 c32 k32
  have F33 := fun_mk (st := s_L_compared) l33 c33 k33
  have F34 := fun_mk (st := s_L_is_pair) l34 c34 k34
  have F35 := fun_mk (st := s_L_is_closed) l35 c35 k35
  have F36 := fun_mk (st := s_L_judged) l36 c36 k36
  have F37 := fun_mk (st := s_L_odd_row) l37 c37 k37
  have F38 := fun_mk (st := s_L_spoilt) l38 c38 k38
  have F39 := fun_mk (st := s_law) l39 c39 k39
  have F40 := fun_mk (st := s_BadRow) xf_BadRow xc_BadRow xkf_BadRow
  have F41 := fun_mk (st := s_BadReader) xf_BadReader xc_BadReader xkf_BadReader
  have T : Txt K mg C_GlimError C_BadRow C_BadReader C_Reader := {
    d_is_integer := ⟨_, _, F1, PySem.W.mg_of X G a1, (F1.binds (ps := ["thing", "low", "high"]) fun _ _ _ _ _ _ us hl => match us, hl with | [_, _, _], _ => rfl)⟩
    d_deep := ⟨_, _, F2, PySem.W.mg_of X G a2, B2, E2⟩
    d_wrong_sign := ⟨_, _, F3, PySem.W.mg_of X G a3, (F3.binds (ps := ["row"]) fun _ _ _ _ _ _ us hl => match us, hl with | [_], _ => rfl)⟩
    d_is_mark := ⟨_, _, F4, PySem.W.mg_of X G a4, (F4.binds (ps := ["thing"]) fun _ _ _ _ _ _ us hl => match us, hl with | [_], _ => rfl)⟩
    d_check_row := ⟨_, _, F5, PySem.W.mg_of X G a5, B5, E5⟩
    d_is_reader_state := ⟨_, _, F6, PySem.W.mg_of X G a6, (F6.binds (ps := ["thing", "many"]) fun _ _ _ _ _ _ us hl => match us, hl with | [_, _], _ => rfl)⟩
    m_Reader___init__ := ⟨f7, _, ⟨wmk_Reader, a7, i7, wkc_Reader⟩, PySem.W.mg_of X G g_Reader, F7, B7, E7⟩
    m_Reader___len__ := ⟨f8, _, ⟨a8, i8, k8⟩, F8, B8, E8⟩
    m_Reader___iter__ := ⟨f9, _, ⟨a9, i9, k9⟩, F9, B9, E9⟩
    m_Reader___eq__ := ⟨f10, _, ⟨a10, i10, k10⟩, F10, B10, E10⟩
    m_Reader___call__ := ⟨f11, _, ⟨a11, i11, k11⟩, F11, B11, E11⟩
    d_words_at := ⟨_, _, F12, PySem.W.mg_of X G a12, (F12.binds (ps := ["first", "second", "pair"]) fun _ _ _ _ _ _ us hl => match us, hl with | [_, _, _], _ => rfl)⟩
    d_pair_behind := ⟨_, _, F13, PySem.W.mg_of X G a13, (F13.binds (ps := ["first", "second", "pair", "place"]) fun _ _ _ _ _ _ us hl => match us, hl with | [_, _, _, _], _ => rfl)⟩
    d_is_state_pair := ⟨_, _, F14, PySem.W.mg_of X G a14, (F14.binds (ps := ["first", "second", "thing"]) fun _ _ _ _ _ _ us hl => match us, hl with | [_, _, _], _ => rfl)⟩
    d_is_right_row := ⟨_, _, F15, PySem.W.mg_of X G a15, (F15.binds (ps := ["first", "second", "pair", "there"]) fun _ _ _ _ _ _ us hl => match us, hl with | [_, _, _, _], _ => rfl)⟩
    d_judge_readers := ⟨_, _, F16, PySem.W.mg_of X G a16, (F16.binds (ps := ["first", "second", "table"]) fun _ _ _ _ _ _ us hl => match us, hl with | [_, _, _], _ => rfl)⟩
    d_L_draw := ⟨_, _, F17, PySem.W.mg_of X G a17, (F17.binds (ps := ["_law_script"]) fun _ _ _ _ _ _ us hl => match us, hl with | [_], _ => rfl)⟩
    d_L_mix := ⟨_, _, F18, PySem.W.mg_of X G a18, (F18.binds (ps := ["_law_cell", "_law_turn"]) fun _ _ _ _ _ _ us hl => match us, hl with | [_, _], _ => rfl)⟩
    d_L_pick := ⟨_, _, F19, PySem.W.mg_of X G a19, (F19.binds (ps := ["_law_draw_here", "_law_many"]) fun _ _ _ _ _ _ us hl => match us, hl with | [_, _], _ => rfl)⟩
    d_L_is_int := ⟨_, _, F20, PySem.W.mg_of X G a20, (F20.binds (ps := ["_law_thing"]) fun _ _ _ _ _ _ us hl => match us, hl with | [_], _ => rfl)⟩
    d_L_name := ⟨_, _, F21, PySem.W.mg_of X G a21, (F21.binds (ps := ["_law_draw_here", "_law_used"]) fun _ _ _ _ _ _ us hl => match us, hl with | [_, _], _ => rfl)⟩
    d_L_names := ⟨_, _, F22, PySem.W.mg_of X G a22, (F22.binds (ps := ["_law_draw_here", "_law_many"]) fun _ _ _ _ _ _ us hl => match us, hl with | [_, _], _ => rfl)⟩
    d_L_signs := ⟨_, _, F23, PySem.W.mg_of X G a23, (F23.binds (ps := ["_law_draw_here"]) fun _ _ _ _ _ _ us hl => match us, hl with | [_], _ => rfl)⟩
    d_L_order := ⟨_, _, F24, PySem.W.mg_of X G a24, (F24.binds (ps := ["_law_draw_here", "_law_many", "_law_names_here", "_law_top"]) fun _ _ _ _ _ _ us hl => match us, hl with | [_, _, _, _], _ => rfl)⟩
    d_L_lines := ⟨_, _, F25, PySem.W.mg_of X G a25, (F25.binds (ps := ["_law_draw_here", "_law_most", "_law_names_here", "_law_top"]) fun _ _ _ _ _ _ us hl => match us, hl with | [_, _, _, _], _ => rfl)⟩
    d_L_settled := ⟨_, _, F26, PySem.W.mg_of X G a26, (F26.binds (ps := ["_law_lines_here", "_law_place", "_law_count", "_law_last"]) fun _ _ _ _ _ _ us hl => match us, hl with | [_, _, _, _], _ => rfl)⟩
    d_L_stepped := ⟨_, _, F27, PySem.W.mg_of X G a27, (F27.binds (ps := ["_law_lines_here", "_law_thing", "_law_sign"]) fun _ _ _ _ _ _ us hl => match us, hl with | [_, _, _], _ => rfl)⟩
    d_L_rows_of := ⟨_, _, F28, PySem.W.mg_of X G a28, (F28.binds (ps := ["_law_lines_here", "_law_most"]) fun _ _ _ _ _ _ us hl => match us, hl with | [_, _], _ => rfl)⟩
    d_L_reader := ⟨_, _, F29, PySem.W.mg_of X G a29, (F29.binds (ps := ["_law_draw_here", "_law_most", "_law_names_here"]) fun _ _ _ _ _ _ us hl => match us, hl with | [_, _, _], _ => rfl)⟩
    d_L_twin := ⟨_, _, F30, PySem.W.mg_of X G a30, (F30.binds (ps := ["_law_draw_here", "_law_rows"]) fun _ _ _ _ _ _ us hl => match us, hl with | [_, _], _ => rfl)⟩
    d_L_changed := ⟨_, _, F31, PySem.W.mg_of X G a31, (F31.binds (ps := ["_law_draw_here", "_law_rows", "_law_names_here"]) fun _ _ _ _ _ _ us hl => match us, hl with | [_, _, _], _ => rfl)⟩
    d_L_two := ⟨_, _, F32, PySem.W.mg_of X G a32, (F32.binds (ps := ["_law_draw_here", "_law_names_here"]) fun _ _ _ _ _ _ us hl => match us, hl with | [_, _], _ => rfl)⟩
    d_L_compared := ⟨_, _, F33, PySem.W.mg_of X G a33, (F33.binds (ps := ["_law_one", "_law_two_here", "_law_most"]) fun _ _ _ _ _ _ us hl => match us, hl with | [_, _, _], _ => rfl)⟩
    d_L_is_pair := ⟨_, _, F34, PySem.W.mg_of X G a34, (F34.binds (ps := ["_law_one", "_law_two_here", "_law_thing"]) fun _ _ _ _ _ _ us hl => match us, hl with | [_, _, _], _ => rfl)⟩
    d_L_is_closed := ⟨_, _, F35, PySem.W.mg_of X G a35, (F35.binds (ps := ["_law_one", "_law_two_here", "_law_pair", "_law_there"]) fun _ _ _ _ _ _ us hl => match us, hl with | [_, _, _, _], _ => rfl)⟩
    d_L_judged := ⟨_, _, F36, PySem.W.mg_of X G a36, (F36.binds (ps := ["_law_one", "_law_two_here", "_law_table"]) fun _ _ _ _ _ _ us hl => match us, hl with | [_, _, _], _ => rfl)⟩
    d_L_odd_row := ⟨_, _, F37, PySem.W.mg_of X G a37, (F37.binds (ps := ["_law_draw_here", "_law_one", "_law_two_here", "_law_pair"]) fun _ _ _ _ _ _ us hl => match us, hl with | [_, _, _, _], _ => rfl)⟩
    d_L_spoilt := ⟨_, _, F38, PySem.W.mg_of X G a38, (F38.binds (ps := ["_law_draw_here", "_law_one", "_law_two_here", "_law_table"]) fun _ _ _ _ _ _ us hl => match us, hl with | [_, _, _, _], _ => rfl)⟩
    d_law := ⟨_, _, F39, PySem.W.mg_of X G a39, (F39.binds (ps := ["_law_script"]) fun _ _ _ _ _ _ us hl => match us, hl with | [_], _ => rfl)⟩
    b_abs := PySem.W.mg_none_of X G z_abs
    b_bool := PySem.W.mg_none_of X G z_bool
    b_enumerate := PySem.W.mg_none_of X G z_enumerate
    b_int := PySem.W.mg_none_of X G z_int
    b_isinstance := PySem.W.mg_none_of X G z_isinstance
    b_iter := PySem.W.mg_none_of X G z_iter
    b_len := PySem.W.mg_none_of X G z_len
    b_list := PySem.W.mg_none_of X G z_list
    b_min := PySem.W.mg_none_of X G z_min
    b_range := PySem.W.mg_none_of X G z_range
    b_repr := PySem.W.mg_none_of X G z_repr
    b_str := PySem.W.mg_none_of X G z_str
    b_sum := PySem.W.mg_none_of X G z_sum
    b_tuple := PySem.W.mg_none_of X G z_tuple
    g_SIGNS := ⟨t_SIGNS, (PySem.W.mg_of X G v_SIGNS).trans (congrArg some (congrArg (fun z => Value.str z t_SIGNS) (by decide +kernel : (".grw" : Str) = ⟨([46, 103, 114, 119] : List Nat).toArray⟩)))⟩
    g_MARK_SIGNS := ⟨t_MARK_SIGNS, (PySem.W.mg_of X G v_MARK_SIGNS).trans (congrArg some (congrArg (fun z => Value.str z t_MARK_SIGNS) (by decide +kernel : ("abcdefghijklmnopqrstuvwxyz0123456789" : Str) = ⟨([97, 98, 99, 100, 101, 102, 103, 104, 105, 106, 107, 108, 109, 110, 111, 112, 113, 114, 115, 116, 117, 118, 119, 120, 121, 122, 48, 49, 50, 51, 52, 53, 54, 55, 56, 57] : List Nat).toArray⟩)))⟩
    g_MOST_LEVELS := ⟨t_MOST_LEVELS, PySem.W.mg_of X G v_MOST_LEVELS⟩
    g_MOST_ROW := ⟨t_MOST_ROW, PySem.W.mg_of X G v_MOST_ROW⟩
    g_MOST_READER := ⟨t_MOST_READER, PySem.W.mg_of X G v_MOST_READER⟩
    c_GlimError := PySem.W.mg_of X G g_GlimError
    c_BadRow := PySem.W.mg_of X G g_BadRow
    c_BadReader := PySem.W.mg_of X G g_BadReader
    c_Reader := PySem.W.mg_of X G g_Reader
    cl_Reader := ⟨wpg_Reader, whd_Reader, wpo_Reader, wsa_Reader⟩
    ic_Reader := ⟨⟨wpg_Reader, whd_Reader, wpo_Reader, wsa_Reader⟩, wca_Reader, xsp, xtk, wmo_Reader⟩
    nt_Reader := wnt_Reader
    st_Reader := wst_Reader
    na_Reader_rows := wna_Reader_rows
    o_BadRow := ⟨⟨nm_BadRow, q_BadRow, N_BadRow, bs_BadRow, bm_BadRow, sn_BadRow, sub_BadRow, ab_BadRow, col_BadRow, dd_BadRow, m0_BadRow, m1_BadRow, m2_BadRow, m3_BadRow, m5_BadRow, xl_BadRow, xr_BadRow⟩, xsa_BadRow, xe_BadRow, xty_BadRow, xk_BadRow⟩
    nf_BadRow_number := xnf_BadRow_number
    i_BadRow := ⟨f40, _, xi_BadRow, xt_BadRow, F40, (F40.binds (ps := ["self", "number"]) fun _ _ _ _ _ _ us hl => match us, hl with | [_, _], _ => rfl)⟩
    e_BadRow := ⟨xis_BadRow, xga_BadRow, xgg_BadRow, xe_BadRow, xhd_BadRow, xca_BadRow, xsp, xtk, xm_BadRow⟩
    o_BadReader := ⟨⟨nm_BadReader, q_BadReader, N_BadReader, bs_BadReader, bm_BadReader, sn_BadReader, sub_BadReader, ab_BadReader, col_BadReader, dd_BadReader, m0_BadReader, m1_BadReader, m2_BadReader, m3_BadReader, m5_BadReader, xl_BadReader, xr_BadReader⟩, xsa_BadReader, xe_BadReader, xty_BadReader, xk_BadReader⟩
    nf_BadReader_number := xnf_BadReader_number
    i_BadReader := ⟨f41, _, xi_BadReader, xt_BadReader, F41, (F41.binds (ps := ["self", "number"]) fun _ _ _ _ _ _ us hl => match us, hl with | [_, _], _ => rfl)⟩
    e_BadReader := ⟨xis_BadReader, xga_BadReader, xgg_BadReader, xe_BadReader, xhd_BadReader, xca_BadReader, xsp, xtk, xm_BadReader⟩
    k_Reader_Reader := Fg.kit_ref qi_Reader qt_Reader qs_Reader y_Reader_Reader
    k_tuple_Reader := Fg.kit_bltn qi_Reader qt_Reader y_tuple_Reader }
  refine ⟨PySem.W.fnOf "law" "law" (defArgs s_law) (defBody s_law) (defScope s_law) .none kV39 dc39 pm39 an39 cd39 ct39, fun s v => .of_eq rfl, fun base _ _ => ?_⟩
  exact ok_law_at F39 T
end K47
open PySem PySem.W PyProof.Rows
set_option maxRecDepth 100000 in
set_option maxHeartbeats 0 in
theorem PySem.Challenge.cw_falseglim_k47_judged_readers_holds : PySem.Challenge.rw_falseglim_k47_judged_readers.Holds := by
  w_on; o_law; k_head; (case hw => w_witness2)
  k_fill
  refine Fg.walk_g (l := PySem.Challenge.rw_falseglim_k47_judged_readers) (n := 63) (k := 9) (x := "_law_script") (CX := fun _ => L2.CX0) (sp := fun w => Fg.sp1 (K47.p_law _)) rfl (by decide) rfl ⟨rfl, by decide, by decide⟩ (fun w h Y => PySem.W.kIn_of Y) ?F (fun _ _ a ns hl _ hS => ⟨.ref a, rfl, a, ns, rfl, hS, hl, fun _ => rfl⟩) (fun _ _ _ _ _ h => h)
  case F =>
    intro w mg fa h KX G hmg
    refine' K47.all_mk KX G hmg ?a1 ?l1 ?c1 ?k1 ?a2 ?l2 ?c2 ?k2 ?e2 ?a3 ?l3 ?c3 ?k3 ?a4 ?l4 ?c4 ?k4 ?a5 ?l5 ?c5 ?k5 ?e5 ?a6 ?l6 ?c6 ?k6 ?a7 ?i7 ?l7 ?c7 ?k7 ?a8 ?i8 ?l8 ?c8 ?k8 ?a9 ?i9 ?l9 ?c9 ?k9 ?a10 ?i10 ?l10 ?c10 ?k10 ?a11 ?i11 ?l11 ?c11 ?k11 ?a12 ?l12 ?c12 ?k12 ?a13 ?l13 ?c13 ?k13 ?a14 ?l14 ?c14 ?k14 ?a15 ?l15 ?c15 ?k15 ?a16 ?l16 ?c16 ?k16 ?a17 ?l17 ?c17 ?k17 ?a18 ?l18 ?c18 ?k18 ?a19 ?l19 ?c19 ?k19 ?a20 ?l20 ?c20 ?k20 ?a21 ?l21 ?c21 ?k21 ?a22 ?l22 ?c22 ?k22 ?a23 ?l23 ?c23 ?k23 ?a24 ?l24 ?c24 ?k24 ?a25 ?l25 ?c25 ?k25 ?a26 ?l26 ?c26 ?k26 ?a27 ?l27 ?c27 ?k27 ?a28 ?l28 ?c28 ?k28 ?a29 ?l29 ?c29 ?k29 ?a30 ?l30 ?c30 ?k30 ?a31 ?l31 ?c31 ?k31 ?a32 ?l32 ?c32 ?k32 ?a33 ?l33 ?c33 ?k33 ?a34 ?l34 ?c34 ?k34 ?a35 ?l35 ?c35 ?k35 ?a36 ?l36 ?c36 ?k36 ?a37 ?l37 ?c37 ?k37 ?a38 ?l38 ?c38 ?k38 ?a39 ?l39 ?c39 ?k39 ?wpg_Reader ?whd_Reader ?wpo_Reader ?wsa_Reader ?wmk_Reader ?wkc_Reader ?wca_Reader ?wmo_Reader ?wnt_Reader ?wst_Reader ?wna_Reader_rows ?z_abs ?z_bool ?z_enumerate ?z_int ?z_isinstance ?z_iter ?z_len ?z_list ?z_min ?z_range ?z_repr ?z_str ?z_sum ?z_tuple ?v_SIGNS ?v_MARK_SIGNS ?v_MOST_LEVELS ?v_MOST_ROW ?v_MOST_READER ?g_GlimError ?g_BadRow ?g_BadReader ?g_Reader ?xl_BadRow ?xr_BadRow ?xsa_BadRow ?xga_BadRow ?xgg_BadRow ?xnf_BadRow_number ?xi_BadRow ?xt_BadRow ?xf_BadRow ?xc_BadRow ?xkf_BadRow ?xk_BadRow ?xe_BadRow ?xty_BadRow ?xhd_BadRow ?xis_BadRow ?xca_BadRow ?xm_BadRow ?xl_BadReader ?xr_BadReader ?xsa_BadReader ?xga_BadReader ?xgg_BadReader ?xnf_BadReader_number ?xi_BadReader ?xt_BadReader ?xf_BadReader ?xc_BadReader ?xkf_BadReader ?xk_BadReader ?xe_BadReader ?xty_BadReader ?xhd_BadReader ?xis_BadReader ?xca_BadReader ?xm_BadReader ?xsp ?xtk ?qi_Reader ?qt_Reader ?qs_Reader ?y_Reader_Reader ?y_tuple_Reader
    (case g_GlimError => k_is)
    (case g_BadRow => k_is)
    (case g_BadReader => k_is)
    (case g_Reader => k_is)
    (case a1 => k_is)
    (case l1 => k_is)
    (case c1 => k_is)
    (case k1 => k_is)
    (case a2 => k_is)
    (case l2 => k_is)
    (case c2 => k_is)
    (case k2 => k_is)
    (case e2 => k_is)
    (case a3 => k_is)
    (case l3 => k_is)
    (case c3 => k_is)
    (case k3 => k_is)
    (case a4 => k_is)
    (case l4 => k_is)
    (case c4 => k_is)
    (case k4 => k_is)
    (case a5 => k_is)
    (case l5 => k_is)
    (case c5 => k_is)
    (case k5 => k_is)
    (case e5 => k_is)
    (case a6 => k_is)
    (case l6 => k_is)
    (case c6 => k_is)
    (case k6 => k_is)
    (case a7 => k_is)
    (case i7 => k_is)
    (case l7 => k_is)
    (case c7 => k_is)
    (case k7 => k_is)
    (case a8 => k_is)
    (case i8 => k_is)
    (case l8 => k_is)
    (case c8 => k_is)
    (case k8 => k_is)
    (case a9 => k_is)
    (case i9 => k_is)
    (case l9 => k_is)
    (case c9 => k_is)
    (case k9 => k_is)
    (case a10 => k_is)
    (case i10 => k_is)
    (case l10 => k_is)
    (case c10 => k_is)
    (case k10 => k_is)
    (case a11 => k_is)
    (case i11 => k_is)
    (case l11 => k_is)
    (case c11 => k_is)
    (case k11 => k_is)
    (case a12 => k_is)
    (case l12 => k_is)
    (case c12 => k_is)
    (case k12 => k_is)
    (case a13 => k_is)
    (case l13 => k_is)
    (case c13 => k_is)
    (case k13 => k_is)
    (case a14 => k_is)
    (case l14 => k_is)
    (case c14 => k_is)
    (case k14 => k_is)
    (case a15 => k_is)
    (case l15 => k_is)
    (case c15 => k_is)
    (case k15 => k_is)
    (case a16 => k_is)
    (case l16 => k_is)
    (case c16 => k_is)
    (case k16 => k_is)
    (case a17 => k_is)
    (case l17 => k_is)
    (case c17 => k_is)
    (case k17 => k_is)
    (case a18 => k_is)
    (case l18 => k_is)
    (case c18 => k_is)
    (case k18 => k_is)
    (case a19 => k_is)
    (case l19 => k_is)
    (case c19 => k_is)
    (case k19 => k_is)
    (case a20 => k_is)
    (case l20 => k_is)
    (case c20 => k_is)
    (case k20 => k_is)
    (case a21 => k_is)
    (case l21 => k_is)
    (case c21 => k_is)
    (case k21 => k_is)
    (case a22 => k_is)
    (case l22 => k_is)
    (case c22 => k_is)
    (case k22 => k_is)
    (case a23 => k_is)
    (case l23 => k_is)
    (case c23 => k_is)
    (case k23 => k_is)
    (case a24 => k_is)
    (case l24 => k_is)
    (case c24 => k_is)
    (case k24 => k_is)
    (case a25 => k_is)
    (case l25 => k_is)
    (case c25 => k_is)
    (case k25 => k_is)
    (case a26 => k_is)
    (case l26 => k_is)
    (case c26 => k_is)
    (case k26 => k_is)
    (case a27 => k_is)
    (case l27 => k_is)
    (case c27 => k_is)
    (case k27 => k_is)
    (case a28 => k_is)
    (case l28 => k_is)
    (case c28 => k_is)
    (case k28 => k_is)
    (case a29 => k_is)
    (case l29 => k_is)
    (case c29 => k_is)
    (case k29 => k_is)
    (case a30 => k_is)
    (case l30 => k_is)
    (case c30 => k_is)
    (case k30 => k_is)
    (case a31 => k_is)
    (case l31 => k_is)
    (case c31 => k_is)
    (case k31 => k_is)
    (case a32 => k_is)
    (case l32 => k_is)
    (case c32 => k_is)
    (case k32 => k_is)
    (case a33 => k_is)
    (case l33 => k_is)
    (case c33 => k_is)
    (case k33 => k_is)
    (case a34 => k_is)
    (case l34 => k_is)
    (case c34 => k_is)
    (case k34 => k_is)
    (case a35 => k_is)
    (case l35 => k_is)
    (case c35 => k_is)
    (case k35 => k_is)
    (case a36 => k_is)
    (case l36 => k_is)
    (case c36 => k_is)
    (case k36 => k_is)
    (case a37 => k_is)
    (case l37 => k_is)
    (case c37 => k_is)
    (case k37 => k_is)
    (case a38 => k_is)
    (case l38 => k_is)
    (case c38 => k_is)
    (case k38 => k_is)
    (case a39 => k_is)
    (case l39 => k_is)
    (case c39 => k_is)
    (case k39 => k_is)
    (case wpg_Reader => k_is)
    (case whd_Reader => k_is)
    (case wpo_Reader => k_is)
    (case wsa_Reader => k_is)
    (case wmk_Reader => k_is)
    (case wkc_Reader => k_is)
    (case wca_Reader => k_is)
    (case wmo_Reader => k_is)
    (case wnt_Reader => k_is)
    (case wst_Reader => k_is)
    (case wna_Reader_rows => k_is)
    (case z_abs => k_is)
    (case z_bool => k_is)
    (case z_enumerate => k_is)
    (case z_int => k_is)
    (case z_isinstance => k_is)
    (case z_iter => k_is)
    (case z_len => k_is)
    (case z_list => k_is)
    (case z_min => k_is)
    (case z_range => k_is)
    (case z_repr => k_is)
    (case z_str => k_is)
    (case z_sum => k_is)
    (case z_tuple => k_is)
    (case v_SIGNS => k_is)
    (case v_MARK_SIGNS => k_is)
    (case v_MOST_LEVELS => k_is)
    (case v_MOST_ROW => k_is)
    (case v_MOST_READER => k_is)
    (case xl_BadRow => k_is)
    (case xr_BadRow => first | rfl | k_is | decide +kernel)
    (case xsa_BadRow => k_is)
    (case xga_BadRow => k_is)
    (case xgg_BadRow => k_is)
    (case xnf_BadRow_number => k_is)
    (case xi_BadRow => k_is)
    (case xt_BadRow => k_is)
    (case xf_BadRow => k_is)
    (case xc_BadRow => k_is)
    (case xkf_BadRow => k_is)
    (case xk_BadRow => k_is)
    (case xe_BadRow => k_is)
    (case xty_BadRow => k_is)
    (case xhd_BadRow => k_is)
    (case xis_BadRow => k_is)
    (case xca_BadRow => k_is)
    (case xm_BadRow => k_is)
    (case xl_BadReader => k_is)
    (case xr_BadReader => first | rfl | k_is | decide +kernel)
    (case xsa_BadReader => k_is)
    (case xga_BadReader => k_is)
    (case xgg_BadReader => k_is)
    (case xnf_BadReader_number => k_is)
    (case xi_BadReader => k_is)
    (case xt_BadReader => k_is)
    (case xf_BadReader => k_is)
    (case xc_BadReader => k_is)
    (case xkf_BadReader => k_is)
    (case xk_BadReader => k_is)
    (case xe_BadReader => k_is)
    (case xty_BadReader => k_is)
    (case xhd_BadReader => k_is)
    (case xis_BadReader => k_is)
    (case xca_BadReader => k_is)
    (case xm_BadReader => k_is)
    (case xsp => k_is)
    (case xtk => k_is)
    (case qi_Reader => k_is)
    (case qt_Reader => k_is)
    (case qs_Reader => k_is)
    (case y_Reader_Reader => k_is)
    (case y_tuple_Reader => k_is)
