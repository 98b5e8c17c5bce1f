import PyProof.Rows.All
import Wide.All
import OpenK.AllK
import Wide.FinOn
import KE.KStateDown
import Lean
import HandS.ForMost
import HandS.Flow
import HandS.Style
import HandS.Exc
import HandS.ExcOwn
import HandS.TryOnly
import HandS.WordsExc
import HandS.Codes
import HandS.Steps
import HandS.TupAny
import HandS.TupMul
import HandS.IsInst
import HandS.Defaults
import HandS.More
import HandS.Wide
import HandS.Conv
import HandS.Head0
import HandS.Head1
import HandS.Head2
import HandS.HeadEnd
import HandS.HeadHook1
import HandS.HeadHook2
import HandS.HeadHook3
import HandS.HeadHook4
import KE.KExcSuper
import HandS.ExcInit
import HandS.ExcField
import HandS.ExcIs
import HandS.RaiseMore
import HandS.WrittenGet
import HandS.CallLocal
import HandS.Strs
import HandS.HotCalls
import HandS.ExcInitHot
import KE.KExcIs
import PySem.Challenge.RW_merestone_k01_instructions_and_their_wor
set_option Elab.async false
set_option linter.all false
set_option maxRecDepth 100000
set_option maxHeartbeats 4000000
namespace M
open PySem PySem.Spec PyProof.Rows L2
abbrev St := L2.St
/-! ### named rules -/
def rInt1 : List V → Hp → VK → Prop := fun xs H Q => (∃ i, xs = [.int i] ∧ Q (.int i) H) ∨ ∃ k, xs = [.bl k] ∧ Q (.int (if k then 1 else 0)) H
def rStrI : List V → Hp → VK → Prop := fun xs H Q => ∃ i, xs = [.int i] ∧ i.natAbs.log2 < 1920 ∧ Q (.str (toString i)) H
def rMax2 : List V → Hp → VK → Prop := fun xs H Q => ∃ i j, xs = [.int i, .int j] ∧ Q (.int (if j > i then j else i)) H
def rMin2 : List V → Hp → VK → Prop := fun xs H Q => ∃ i j, xs = [.int i, .int j] ∧ Q (.int (if j < i then j else i)) H
def rLenQ (K : PySem.W.Frag) : List V → Hp → VK → Prop := fun xs H Q => ∃ p ys, xs = [.ref p] ∧ (SqL K H p ys ∨ SqT K H p ys) ∧ Q (.int ys.length) H
def rLenZ : List V → Hp → VK → Prop := fun xs H Q => ∃ z : Str, xs = [.str z] ∧ z.length ≤ sizeLine ∧ Q (.int z.length) H
def rListQ (K : PySem.W.Frag) : List V → Hp → VK → Prop := fun xs H Q => ∃ p ys, xs = [.ref p] ∧ (SqL K H p ys ∨ SqT K H p ys) ∧ ∀ l, H l = none → Q (.ref l) (upd H l (.lst ys))
def rTupQ (K : PySem.W.Frag) : List V → Hp → VK → Prop := fun xs H Q => ∃ p ys, xs = [.ref p] ∧ ((SqL K H p ys ∧ ∀ l, H l = none → Q (.ref l) (upd H l (.tup ys))) ∨ (SqT K H p ys ∧ Q (.ref p) H))
def rAddZ : R2 := fun x y H Q => ∃ i j, x = .str i ∧ y = .str j ∧ i.length + j.length ≤ sizeLine ∧ Q (.str (i ++ j)) H
section
variable {X : Cx}
theorem call_int : CallR X (.type "int") rInt1 := call_int1
theorem call_strI : CallR X (.type "str") rStrI := call_str_int
theorem call_max2 (hc : X.calm = true) : CallR X (.builtin "max") rMax2 := L2.call_max2 hc
theorem call_min2 (hc : X.calm = true) : CallR X (.builtin "min") rMin2 := L2.call_min2 hc
theorem call_len : CallR X (.builtin "len") (rLenQ X.K) := call_len_seq
theorem call_lenS : CallR X (.builtin "len") rLenZ := call_len_str
theorem call_list : CallR X (.type "list") (rListQ X.K) := call_list_of
theorem call_tuple : CallR X (.type "tuple") (rTupQ X.K) := call_tuple_of
theorem op_addS : OpR X (binaryOp .Add) rAddZ := op_add_str
theorem call_isi : CallR X (.builtin "isinstance") (rIsi X.K) := L2.call_isi
def tTruV (K : PySem.W.Frag) (ta : TE) : TT := fun σ H Q => ta σ H fun x H' => ∃ k, TruV K x H' k ∧ Q k H'
theorem pt_tru {a : Expr} {ta : TE} (ha : PE X a ta) (he : ∀ whole, isTrue a X.env whole = (do let v ← whole; standAt a.pos; holding [v] (truthy v)) := by intro _; rfl) : PT X a (tTruV X.K ta) := pt_truth ha he
end
/-! ### steps of a reading -/
section
variable {σ : St} {H : Hp} {Q : VK} {i : Nat} {v x y : V} {ta tb tc te : TE} {t u : TT} {r r' : R2} {tr tl : TA} {K : PySem.W.Frag}
theorem x_var (h : σ[i]? = some (some v)) (k : Q v H) : tVar i σ H Q := ⟨v, h, k⟩
theorem x_c (k : Q v H) : tC v σ H Q := k
theorem x_op (k : ta σ H fun x H1 => tb σ H1 fun y H2 => r x y H2 Q) : tOp r ta tb σ H Q := k
theorem x_un {r : V → Hp → VK → Prop} (k : ta σ H fun x H1 => r x H1 Q) : tUn r ta σ H Q := k
theorem x_rI0 {g : Int → Int → V} {a b : Int} (k : Q (g a b) H) : rI0 g (.int a) (.int b) H Q := ⟨a, b, rfl, rfl, k⟩
theorem x_rI {C : Int → Int → Prop} {g : Int → Int → V} {a b : Int} (c : C a b) (k : Q (g a b) H) : rI C g (.int a) (.int b) H Q := ⟨a, b, rfl, rfl, c, k⟩
theorem x_rU {g : Int → V} {a : Int} (k : Q (g a) H) : rU g (.int a) H Q := ⟨a, rfl, k⟩
theorem x_eqI {a b : Int} (k : Q (.bl (decide (a = b))) H) : rEq (.int a) (.int b) H Q := ⟨rfl, by
  have e : decide (V.int a = V.int b) = decide (a = b) := by
    by_cases h : a = b
    · subst h; simp
    · rw [decide_eq_false h, decide_eq_false (fun q => h (V.int.inj q))]
  rw [e]; exact k⟩
theorem x_neI {a b : Int} (k : Q (.bl (decide (a ≠ b))) H) : rNe (.int a) (.int b) H Q := ⟨rfl, by
  have e : (!decide (V.int a = V.int b)) = decide (a ≠ b) := by
    by_cases h : a = b
    · subst h; simp
    · rw [decide_eq_false (fun q => h (V.int.inj q)), decide_eq_true h]; rfl
  rw [e]; exact k⟩
theorem x_eqS {a b : Str} (k : Q (.bl (decide (a = b))) H) : rEq (.str a) (.str b) H Q := ⟨rfl, by
  have e : decide (V.str a = V.str b) = decide (a = b) := by
    by_cases h : a = b
    · subst h; simp
    · rw [decide_eq_false h, decide_eq_false (fun q => h (V.str.inj q))]
  rw [e]; exact k⟩
theorem x_neS {a b : Str} (k : Q (.bl (decide (a ≠ b))) H) : rNe (.str a) (.str b) H Q := ⟨rfl, by
  have e : (!decide (V.str a = V.str b)) = decide (a ≠ b) := by
    by_cases h : a = b
    · subst h; simp
    · rw [decide_eq_false (fun q => h (V.str.inj q)), decide_eq_true h]; rfl
  rw [e]; exact k⟩
theorem x_eqB {a b : Bool} (k : Q (.bl (decide (a = b))) H) : rEq (.bl a) (.bl b) H Q := ⟨rfl, by
  have e : decide (V.bl a = V.bl b) = decide (a = b) := by cases a <;> cases b <;> rfl
  rw [e]; exact k⟩
theorem x_neB {a b : Bool} (k : Q (.bl (decide (a ≠ b))) H) : rNe (.bl a) (.bl b) H Q := ⟨rfl, by
  have e : (!decide (V.bl a = V.bl b)) = decide (a ≠ b) := by cases a <;> cases b <;> rfl
  rw [e]; exact k⟩
/-- a value that is to be a bool -/
def isB (x : V) (H : Hp) (Q : Bool → Hp → Prop) : Prop := ∃ k, x = .bl k ∧ Q k H
theorem x_isB {b : Bool} {Q : Bool → Hp → Prop} (k : Q b H) : isB (.bl b) H Q := ⟨b, rfl, k⟩
theorem x_test {Q : Bool → Hp → Prop} (k : te σ H fun x H1 => isB x H1 Q) : tTest te σ H Q := k
theorem x_tB {Q : Bool → Hp → Prop} (k : te σ H fun x H1 => isB x H1 Q) : tB te σ H Q := k
theorem x_not {Q : Bool → Hp → Prop} (k : t σ H fun c H1 => Q (!c) H1) : tNot t σ H Q := k
/-- two ways -/
def ifB (b : Bool) (A B : Prop) : Prop := if b = true then A else B
theorem x_ifT {A B : Prop} (k : A) : ifB true A B := by unfold ifB; rw [if_pos rfl]; exact k
theorem x_ifF {A B : Prop} (k : B) : ifB false A B := by unfold ifB; rw [if_neg Bool.false_ne_true]; exact k
theorem x_if {b : Bool} {A B : Prop} (h1 : b = true → A) (h2 : b = false → B) : ifB b A B := by
  cases b with
  | true => exact x_ifT (h1 rfl)
  | false => exact x_ifF (h2 rfl)
theorem x_ifD {p : Prop} [Decidable p] {A B : Prop} (h1 : p → A) (h2 : ¬ p → B) : ifB (decide p) A B := x_if (fun h => h1 (of_decide_eq_true h)) fun h => h2 (of_decide_eq_false h)
theorem x_ifN {p : Prop} [Decidable p] {A B : Prop} (h1 : ¬ p → A) (h2 : p → B) : ifB (!decide p) A B := x_if (fun h => h1 (of_decide_eq_false (by simpa using h))) fun h => h2 (of_decide_eq_true (by simpa using h))
theorem x_ifNB {b : Bool} {A B : Prop} (k : ifB b B A) : ifB (!b) A B := by
  cases b with
  | true => exact k
  | false => exact k
theorem x_ifTD {p : Prop} [Decidable p] {A B : Prop} (h : p) (k : A) : ifB (decide p) A B := by rw [decide_eq_true h]; exact x_ifT k
theorem x_ifFD {p : Prop} [Decidable p] {A B : Prop} (h : ¬ p) (k : B) : ifB (decide p) A B := by rw [decide_eq_false h]; exact x_ifF k
theorem x_and {Q : Bool → Hp → Prop} (k : t σ H fun c H1 => ifB c (u σ H1 Q) (Q false H1)) : tAnd t u σ H Q := k
theorem x_or {Q : Bool → Hp → Prop} (k : t σ H fun c H1 => ifB c (Q true H1) (u σ H1 Q)) : tOr t u σ H Q := k
theorem x_andV (k : ta σ H fun x H1 => isB x H1 fun c H1 => ifB c (tb σ H1 Q) (Q (.bl false) H1)) : tAndV ta tb σ H Q := k
theorem x_orV (k : ta σ H fun x H1 => isB x H1 fun c H1 => ifB c (Q (.bl true) H1) (tb σ H1 Q)) : tOrV ta tb σ H Q := k
theorem x_notV (k : ta σ H fun x H1 => isB x H1 fun c H1 => Q (.bl (!c)) H1) : tNotV ta σ H Q := k
theorem x_ifE (k : t σ H fun c H1 => ifB c (ta σ H1 Q) (tb σ H1 Q)) : tIf t ta tb σ H Q := k
theorem x_chain (k : ta σ H fun x H1 => tb σ H1 fun y H2 => r x y H2 fun z H3 => isB z H3 fun c H3 => ifB c (tc σ H3 fun w H4 => r' y w H4 Q) (Q (.bl false) H3)) : tChain r r' ta tb tc σ H Q := by
  unfold tChain
  exact k
theorem x_isN (k : Q (.bl (decide (x = .non))) H) : rIsN x .non H Q := ⟨rfl, k⟩
theorem x_notN (k : Q (.bl (!decide (x = .non))) H) : rNotN x .non H Q := ⟨rfl, k⟩
theorem x_nil {Q : List V → Hp → Prop} (k : Q [] H) : tNil σ H Q := k
theorem x_cons {Q : List V → Hp → Prop} (k : te σ H fun x H1 => tr σ H1 fun xs H2 => Q (x :: xs) H2) : tCons te tr σ H Q := k
theorem x_call {sp : Sp} {E : XK} (k : tr σ H fun vs H1 => sp vs H1 Q E) : tCall sp [] E tr σ H Q := by
  show tr σ H fun vs H1 => sp (vs ++ []) H1 Q E
  have e : (fun (vs : List V) (H1 : Hp) => sp (vs ++ []) H1 Q E) = fun vs H1 => sp vs H1 Q E := by
    funext vs H1
    rw [List.append_nil]
  rw [e]
  exact k
theorem x_callB {r : List V → Hp → VK → Prop} (k : tr σ H fun vs H1 => r vs H1 Q) : tCB r tr σ H Q := k
theorem x_int {a : Int} (k : Q (.int a) H) : rInt1 [.int a] H Q := Or.inl ⟨a, rfl, k⟩
theorem x_intB {b : Bool} (k : Q (.int (if b then 1 else 0)) H) : rInt1 [.bl b] H Q := Or.inr ⟨b, rfl, k⟩
theorem x_max2 {a b : Int} (k : Q (.int (if b > a then b else a)) H) : rMax2 [.int a, .int b] H Q := ⟨a, b, rfl, k⟩
theorem x_min2 {a b : Int} (k : Q (.int (if b < a then b else a)) H) : rMin2 [.int a, .int b] H Q := ⟨a, b, rfl, k⟩
theorem x_lenL {p : Addr} {ys : List V} (h : SqL K H p ys) (k : Q (.int ys.length) H) : rLenQ K [.ref p] H Q := ⟨p, ys, rfl, .inl h, k⟩
theorem x_lenT {p : Addr} {ys : List V} (h : SqT K H p ys) (k : Q (.int ys.length) H) : rLenQ K [.ref p] H Q := ⟨p, ys, rfl, .inr h, k⟩
theorem x_lenZ {z : Str} (h : z.length ≤ sizeLine) (k : Q (.int z.length) H) : rLenZ [.str z] H Q := ⟨z, rfl, h, k⟩
theorem x_ixL {p : Addr} {xs : List V} {j : Int} (h : SqL K H p xs) (ha : atI xs j = some v) (k : Q v H) : rIxL K (.ref p) (.int j) H Q := ⟨p, xs, j, v, rfl, rfl, h, ha, k⟩
theorem x_ixT {p : Addr} {xs : List V} {j : Int} (h : SqT K H p xs) (ha : atI xs j = some v) (k : Q v H) : rIxT K (.ref p) (.int j) H Q := ⟨p, xs, j, v, rfl, rfl, h, ha, k⟩
/-! new objects: the heap behind is a letter -/
theorem x_lst (k : tr σ H fun xs H1 => xs.length ≤ sizeLine ∧ ∀ p H2, H1 p = none → Same H1 H2 → H2 p = some (.lst xs) → Q (.ref p) H2) (mono : ∀ (Q Q' : List V → Hp → Prop), (∀ xs H1, Q xs H1 → Q' xs H1) → tr σ H Q → tr σ H Q') : tLst tr σ H Q :=
  mono _ _ (fun xs H1 ⟨h1, h2⟩ => ⟨h1, fun p hp => h2 p _ hp (fun b o e => by rw [upd_ne (ne_of_none e hp)]; exact e) upd_same⟩) k
end
theorem same_new {H : Hp} {p : Addr} {o : HO} (hp : H p = none) : Same H (upd H p o) := fun b u e => by rw [upd_ne (ne_of_none e hp)]; exact e
/-- a new list from values at hand -/
def NewL (xs : List V) (H : Hp) (Q : VK) : Prop := xs.length ≤ sizeLine ∧ ∀ p, H p = none → Q (.ref p) (upd H p (.lst xs))
def NewT (xs : List V) (H : Hp) (Q : VK) : Prop := xs.length ≤ sizeLine ∧ ∀ p, H p = none → Q (.ref p) (upd H p (.tup xs))
section
variable {σ : St} {H : Hp} {Q : VK} {i : Nat} {v x y : V} {ta tb tc te : TE} {t u : TT} {tr tl : TA} {K : PySem.W.Frag} {nx bk ct : St → Hp → Prop} {rt : VK} {ts tu : TS} {g : TG}
theorem x_lst' (k : tr σ H fun xs H1 => NewL xs H1 Q) : tLst tr σ H Q := k
theorem x_tup' (k : tr σ H fun xs H1 => NewT xs H1 Q) : tTup tr σ H Q := k
theorem x_newL {xs : List V} (h : xs.length ≤ sizeLine) (k : ∀ p H2, H p = none → Same H H2 → H2 p = some (.lst xs) → Q (.ref p) H2) : NewL xs H Q := ⟨h, fun p hp => k p _ hp (same_new hp) upd_same⟩
theorem x_newT {xs : List V} (h : xs.length ≤ sizeLine) (k : ∀ p H2, H p = none → Same H H2 → H2 p = some (.tup xs) → Q (.ref p) H2) : NewT xs H Q := ⟨h, fun p hp => k p _ hp (same_new hp) upd_same⟩
theorem x_listL {p : Addr} {ys : List V} (h : SqL K H p ys) (k : ∀ q H2, H q = none → Same H H2 → H2 q = some (.lst ys) → Q (.ref q) H2) : rListQ K [.ref p] H Q := ⟨p, ys, rfl, .inl h, fun q hq => k q _ hq (same_new hq) upd_same⟩
theorem x_listT {p : Addr} {ys : List V} (h : SqT K H p ys) (k : ∀ q H2, H q = none → Same H H2 → H2 q = some (.lst ys) → Q (.ref q) H2) : rListQ K [.ref p] H Q := ⟨p, ys, rfl, .inr h, fun q hq => k q _ hq (same_new hq) upd_same⟩
theorem x_cat {p q : Addr} {xs ys : List V} (h1 : H p = some (.lst xs)) (h2 : H q = some (.lst ys)) (hl : xs.length + ys.length ≤ sizeLine) (k : ∀ l H2, H l = none → Same H H2 → H2 l = some (.lst (xs ++ ys)) → Q (.ref l) H2) : rCat (.ref p) (.ref q) H Q :=
  ⟨p, q, xs, ys, rfl, rfl, h1, h2, hl, fun l hl => k l _ hl (same_new hl) upd_same⟩
/-! statements -/
theorem x_seq (k : ts ⟨tu ⟨nx, rt, bk, ct⟩, rt, bk, ct⟩ σ H) : tSeq ts tu ⟨nx, rt, bk, ct⟩ σ H := k
theorem x_next (k : nx σ H) : tNext ⟨nx, rt, bk, ct⟩ σ H := k
theorem x_brk (k : bk σ H) : tBreak ⟨nx, rt, bk, ct⟩ σ H := k
theorem x_cont (k : ct σ H) : tCont ⟨nx, rt, bk, ct⟩ σ H := k
theorem x_drop (k : te σ H fun _ H1 => nx σ H1) : tDrop te ⟨nx, rt, bk, ct⟩ σ H := k
theorem x_ret (k : te σ H rt) : tRet te ⟨nx, rt, bk, ct⟩ σ H := k
theorem x_retN (k : rt .non H) : tRetN ⟨nx, rt, bk, ct⟩ σ H := k
theorem x_ifS (k : t σ H fun c H1 => ifB c (ts ⟨nx, rt, bk, ct⟩ σ H1) (tu ⟨nx, rt, bk, ct⟩ σ H1)) : tIfS t ts tu ⟨nx, rt, bk, ct⟩ σ H := k
theorem x_asg (k : te σ H fun x H1 => g x σ H1 nx) : tAsg te g ⟨nx, rt, bk, ct⟩ σ H := k
theorem x_gname {Q : St → Hp → Prop} (k : Q (σ.set i (some x)) H) : gName i x σ H Q := k
end
theorem same_l {K : PySem.W.Frag} {H H' : Hp} {a : Addr} {xs : List V} (e : Same H H') (h : SqL K H a xs) : SqL K H' a xs := e.seq h
end M
namespace M
open PySem PySem.Spec PyProof.Rows L2
section
variable {P : Program} {w : World} {K : PySem.W.Frag} {mg : Str → Option Value} {base : Heap}
/-- a def of the module that lets nothing out -/
theorem cal_mk {x : Str} {st : Stmt} {f : Addr} {N ps : List Str} {k : Nat} {sp : Sp} (F : ∃ fd, FunD K x x (defArgs st) (defBody st) (defScope st) [] [] f fd) (hm : mg x = some (.ref f)) (S : FnScope N ps (defScope st))
    (hb : ∀ (kV doc pm : Value) (an : Option Addr) (cdv ct : Value) (us : List Value), us.length = ps.length → bindArgs (PySem.W.fnOf x x (defArgs st) (defBody st) (defScope st) .none kV doc pm an cdv ct) ⟨us, []⟩ = pure (ps.zip us))
    (len : ∀ vs H Q E, sp vs H Q E → vs.length = ps.length)
    (hbody : ∀ (cdv : Value) (A : Around) (outer : List Env) (s : Shared) (H : Hp) (vs : List V) (Q : VK) (E : XK), Room k (A.deeper (envOfC x (defScope st) s.heap.objs.size f cdv)) → sp vs H Q E →
      ∃ t, PSs (cxOf CX0 P w K mg base N x (defScope st) f cdv A outer s H E).nox (defBody st) t ∧ t ⟨fun _ H' => Q .non H', Q, fun _ _ => False, fun _ _ => False⟩ (start N vs) H) : C8.Cal P w K mg base (k + 1) x sp [] := by
  obtain ⟨fd, F⟩ := F
  refine ⟨f, fd, ps, [], F.ok S len fun cdv A outer s H vs Q E hr h => ?_, hm, F.kp, F.bindsN hb, .nil⟩
  obtain ⟨t, h1, h2⟩ := hbody cdv A outer s H vs Q E hr h
  exact ⟨t, h1.nox, h2⟩
end
end M
namespace M
open PySem PySem.Spec PyProof.Rows L2
section
variable {K : PySem.W.Frag} {h : Heap} {mg : Str → Option Value}
theorem gc_int (X : K.In h) (G : h.Ns mainGlobals mg) {x : Str} {i : Int} (c : (He.Fa.int x i).ok K = true) : ∃ u, mg x = some u ∧ RelV (.int i) u := by
  obtain ⟨t, e⟩ := He.int_ok X G c
  exact ⟨_, e, t, rfl⟩
theorem gc_str (X : K.In h) (G : h.Ns mainGlobals mg) {x z : Str} (c : (He.Fa.str x z).ok K = true) : ∃ u, mg x = some u ∧ RelV (.str z) u := by
  obtain ⟨t, e⟩ := He.str_ok X G c
  exact ⟨_, e, t, rfl⟩
theorem ex_at {l : List (PySem.W.Frag → Bool)} (c : (l.all fun f => f K) = true) (i : Nat) {f : PySem.W.Frag → Bool} (e : l[i]? = some f) : f K = true := List.all_eq_true.mp c f (List.mem_of_getElem? e)
end
/-- the end of a law over a head by facts; the script's bits told -/
theorem walk_end {l : PySem.W.OpenLaw} {n k : Nat} {q : Program} {loose : List Str} {XP : (Str → Option Value) → Heap → Prop} {YP : World → Heap → Prop} {d : DefRec} {CX : World → CXT} {x : Str}
    (hn : l.most = some n) (hn2 : n ≤ sizeLine) (hdf : d.params.defaults = []) (hr : Room k callerA)
    (F : ∀ (w : World) (mg : Str → Option Value) (fa : Addr) (h : Heap), YP w h → h.Ns mainGlobals mg → mg d.name = some (.ref fa) →
      ∃ (K : PySem.W.Frag) (fd : FuncData) (sp : Sp), K.In h ∧ (∀ (s : Shared) (u : Value), BindsTo s fd ⟨[u], []⟩ [(x, u)]) ∧
        (∀ (H : Hp) (a : Addr) (ns : List Int), ns.length ≤ n → Only H → SqL K H a (ns.map V.int) → sp [.ref a] H (fun v _ => v = .bl true) fun _ _ _ => False) ∧
        ∀ base : Heap, K.In base → base.Ns mainGlobals mg → FnOk l.prog w K mg base (CX w) k fa fd [x] sp)
    (hCX : ∀ (w : World) (H : Hp) (s : Shared) (e : Value) (s' : Shared), CX w [] H s (fun _ _ _ => False) e s' → False) :
    PySem.W.WalkO q loose XP YP l.row.toRowW d [] (fun f vs => PySem.call f vs) := by
  refine Att.attach_call hn hdf fun w s₀ s₁ mg mb fa o pm cd doc a vs ns G Y ho hd hcd hmg hobj hints hlen hg => ?_
  obtain ⟨K, fd, sp, KX, hb, hsp, hF⟩ := F w mg fa _ Y G.T.g hmg
  exact law_call KX G.T.g G.T.b G.T.builtins G.T.nolimit hg hobj hints (Nat.le_trans hlen hn2) hr hF hb (fun H hO hS => hsp H a ns hlen hO hS) fun H e s' => hCX w H s₁ e s'
end M
namespace M
open PySem PySem.Spec PyProof.Rows L2
section
variable {K : PySem.W.Frag} {H : Hp} {Q : VK} {x : V} {b : Bool}
theorem x_isi {S T : String} (ty : TyX K H x (.type S)) (h : kitB S T = some b) (k : Q (.bl b) H) : rIsi K [x, .ty T] H Q := ⟨x, .ty T, _, _, b, rfl, .ty T, ty, kit_ty h, k⟩
theorem x_isiII {i : Int} (k : Q (.bl true) H) : rIsi K [.int i, .ty "int"] H Q := x_isi (.base (.int i)) (by decide +kernel) k
theorem x_isiIB {i : Int} (k : Q (.bl false) H) : rIsi K [.int i, .ty "bool"] H Q := x_isi (.base (.int i)) (by decide +kernel) k
theorem x_isiBB {i : Bool} (k : Q (.bl true) H) : rIsi K [.bl i, .ty "bool"] H Q := x_isi (.base (.bl i)) (by decide +kernel) k
theorem x_isiBI {i : Bool} (k : Q (.bl true) H) : rIsi K [.bl i, .ty "int"] H Q := x_isi (.base (.bl i)) (by decide +kernel) k
theorem x_isiSS {z : Str} (k : Q (.bl true) H) : rIsi K [.str z, .ty "str"] H Q := x_isi (.base (.str z)) (by decide +kernel) k
end
theorem atI_of {α : Type} {xs : List α} {i : Int} {v : α} (h0 : 0 ≤ i) (h : xs[i.toNat]? = some v) : atI xs i = some v := by
  have e := atI_nat h
  rw [Int.toNat_of_nonneg h0] at e
  exact e
theorem atI_ints {l : List Int} {i : Int} (h0 : 0 ≤ i) (h1 : i < l.length) : atI (l.map V.int) i = some (.int (l.getD i.toNat 0)) := by
  refine atI_of h0 ?_
  have hl : i.toNat < l.length := by omega
  rw [List.getElem?_map, List.getElem?_eq_getElem hl]
  simp [List.getD, hl]
theorem atI_get {α β : Type} {f : α → β} {l : List α} {i : Int} {v : α} (h0 : 0 ≤ i) (h : l[i.toNat]? = some v) : atI (l.map f) i = some (f v) := by
  refine atI_of h0 ?_
  rw [List.getElem?_map, h]
  rfl
theorem sl4 {n : Nat} (h : n ≤ 100000) : n ≤ sizeLine := by rw [sizeLine_eq]; omega
/-! a for over range(n), range(a, b) -/
section
variable {σ : St} {H : Hp} {nx bk ct : St → Hp → Prop} {rt : VK} {tb : TS} {g : TG} {ta : TA} {K : PySem.W.Frag} {tl : TE}
def rRng1 (R : It → Hp → Prop) (vs : List V) (H1 : Hp) : Prop := ∃ j : Int, vs = [.int j] ∧ -(2 ^ 62) ≤ j ∧ j < 2 ^ 62 ∧ R (Itr 0 j.toNat) H1
/-- Pv: by the turns done -/
theorem x_for1 {n : Int} (hi : ∀ Q : List V → Hp → Prop, Q [.int n] H → ta σ H Q) (h : 0 ≤ n ∧ n < 2 ^ 62) (Pv : Nat → St → Hp → Prop) (h0 : Pv 0 σ H)
    (hs : ∀ (i : Nat) σ' H', (i : Int) < n → Pv i σ' H' → g (.int (i : Int)) σ' H' fun σ2 H2 => tb ⟨Pv (i + 1), rt, nx, Pv (i + 1)⟩ σ2 H2) (hd : ∀ σ' H', Pv n.toNat σ' H' → nx σ' H') : tFor (iRng1 ta) g tb ⟨nx, rt, bk, ct⟩ σ H := by
  refine hi _ ⟨n, rfl, by omega, h.2, ?_⟩
  refine for_range (lo := 0) (n := n.toNat) (D := ⟨nx, rt, bk, ct⟩) Pv h0 (fun i σ' H' hlt hp => ?_) hd
  have e : (0 : Int) + (i : Int) = (i : Int) := Int.zero_add _
  rw [e]
  exact hs i σ' H' (by omega) hp
theorem x_for2 {lo n : Int} (hi : ∀ Q : List V → Hp → Prop, Q [.int lo, .int n] H → ta σ H Q) (h : -(2 ^ 62) ≤ lo ∧ lo < 2 ^ 62 ∧ -(2 ^ 62) ≤ n ∧ n < 2 ^ 62) (Pv : Nat → St → Hp → Prop) (h0 : Pv 0 σ H)
    (hs : ∀ (i : Nat) σ' H', lo + (i : Int) < n → Pv i σ' H' → g (.int (lo + (i : Int))) σ' H' fun σ2 H2 => tb ⟨Pv (i + 1), rt, nx, Pv (i + 1)⟩ σ2 H2) (hd : ∀ σ' H', Pv (n - lo).toNat σ' H' → nx σ' H') : tFor (iRng2 ta) g tb ⟨nx, rt, bk, ct⟩ σ H := by
  refine hi _ ⟨lo, n, rfl, h, ?_⟩
  exact for_range (lo := lo) (n := (n - lo).toNat) (D := ⟨nx, rt, bk, ct⟩) Pv h0 (fun i σ' H' hlt hp => hs i σ' H' (by omega) hp) hd
theorem x_forL {a : Addr} {xs : List V} (hi : ∀ Q : VK, Q (.ref a) H → tl σ H Q) (hx : SqL K H a xs) (Pv : Nat → St → Hp → Prop) (h0 : Pv 0 σ H) (hl : ∀ i σ' H', i ≤ xs.length → Pv i σ' H' → SqL K H' a xs)
    (hs : ∀ i x σ' H', xs[i]? = some x → Pv i σ' H' → g x σ' H' fun σ2 H2 => tb ⟨Pv (i + 1), rt, nx, Pv (i + 1)⟩ σ2 H2) (hd : ∀ σ' H', Pv xs.length σ' H' → nx σ' H') : tFor (iList K tl) g tb ⟨nx, rt, bk, ct⟩ σ H := by
  refine hi _ ⟨a, rfl, ⟨xs, hx⟩, ?_⟩
  exact for_list (K := K) (a := a) (xs := xs) (D := ⟨nx, rt, bk, ct⟩) Pv h0 hl hs hd
end
/-! [elt for x in list] -/
section
variable {σ : St} {H : Hp} {Q : VK} {K : PySem.W.Frag} {tl te : TE} {tt : TT} {g : TG} {vs : List Nat}
theorem x_lcL {a : Addr} {xs ys : List V} (hi : ∀ Q : VK, Q (.ref a) H → tl σ H Q) (hx : SqL K H a xs) (hz : xs.length ≤ 100000) (hy : ys.length = xs.length)
    (hs : ∀ (i : Nat) (x y : V) (H' : Hp), xs[i]? = some x → ys[i]? = some y → Same H H' → g x (wipe σ vs) H' fun σ2 H2 => wipe σ2 vs = wipe σ vs ∧ H2 = H' ∧ ∀ R : VK, R y H' → te σ2 H' R)
    (k : ∀ p H2, H p = none → Same H H2 → H2 p = some (.lst ys) → Q (.ref p) H2) (hg : ∀ x σ H (P P' : St → Hp → Prop), (∀ σ H, P σ H → P' σ H) → g x σ H P → g x σ H P') : tLc (iList K tl) g tYes te vs σ H Q := by
  refine hi _ ⟨a, rfl, ⟨xs, hx⟩, fun D hD => ?_⟩
  refine lc_list (K := K) (a := a) (xs := xs) (fun i H' => Same H H' ∧ H' D = some (.lst (ys.take i))) ⟨same_new hD, upd_same⟩ (fun i H' _ p => p.1.seq hx) (fun i x H' hi p => ?_) (fun H' p => ?_)
  · have hlt : i < ys.length := by rw [hy]; exact (List.getElem?_eq_some_iff.mp hi).1
    have hyi : ys[i]? = some ys[i] := List.getElem?_eq_getElem hlt
    refine hg _ _ _ _ _ (fun σ2 H2 q => ?_) (hs i x ys[i] H' hi hyi p.1)
    obtain ⟨q1, rfl, q2⟩ := q
    refine ⟨q1, ?_⟩
    refine q2 _ ⟨ys.take i, p.2, ?_, ?_, ?_⟩
    · rw [List.length_take, sizeLine_eq]; omega
    · intro b o e
      have hb : b ≠ D := ne_of_none e hD
      rw [upd_ne hb]
      exact p.1 b o e
    · rw [upd_same, ← List.take_append_getElem hlt]
  · have e : ys.take xs.length = ys := by rw [← hy]; exact List.take_length
    rw [e] at p
    exact k D H' hD p.1 p.2
end
end M
namespace M
open PySem PySem.Spec PyProof.Rows L2
section
variable {σ : St} {H : Hp} {Q : VK} {K : PySem.W.Frag} {ta : TE} {nx bk ct : St → Hp → Prop} {rt : VK} {ts tu : TS}
/-- truth of a value -/
def isTru (K : PySem.W.Frag) (x : V) (H : Hp) (Q : Bool → Hp → Prop) : Prop := ∃ k, TruV K x H k ∧ Q k H
theorem x_truV {Q : Bool → Hp → Prop} (k : ta σ H fun x H1 => isTru K x H1 Q) : tTruV K ta σ H Q := k
theorem x_truL {Q : Bool → Hp → Prop} {p : Addr} {xs : List V} (h : SqL K H p xs) (k : Q (!xs.isEmpty) H) : isTru K (.ref p) H Q := ⟨_, .inl ⟨xs, h, rfl⟩, k⟩
theorem x_truT {Q : Bool → Hp → Prop} {p : Addr} {xs : List V} (h : SqT K H p xs) (k : Q (!xs.isEmpty) H) : isTru K (.ref p) H Q := ⟨_, .inr (.inl ⟨xs, h, rfl⟩), k⟩
theorem x_truI {Q : Bool → Hp → Prop} {i : Int} (k : Q (decide (i ≠ 0)) H) : isTru K (.int i) H Q := ⟨_, rfl, by
  have e : (i != 0) = decide (i ≠ 0) := by
    by_cases h : i = 0
    · subst h; rfl
    · rw [decide_eq_true h]; simpa using h
  rw [e]; exact k⟩
theorem x_cut (Md : St → Hp → Prop) (h : ts ⟨Md, rt, bk, ct⟩ σ H) (k : ∀ σ' H', Md σ' H' → tu ⟨nx, rt, bk, ct⟩ σ' H') : C8.tCut ts tu ⟨nx, rt, bk, ct⟩ σ H := ⟨Md, h, k⟩
theorem x_isBl {a b : Bool} (k : Q (.bl (decide (a = b))) H) : rIsB (.bl a) (.bl b) H Q := ⟨a, b, rfl, rfl, k⟩
theorem x_notBl {a b : Bool} (k : Q (.bl (!decide (a = b))) H) : rNotB (.bl a) (.bl b) H Q := ⟨a, b, rfl, rfl, k⟩
end
theorem gName_mono {i : Nat} (x : V) (σ : St) (H : Hp) (P P' : St → Hp → Prop) (h : ∀ σ H, P σ H → P' σ H) (q : gName i x σ H P) : gName i x σ H P' := h _ _ q
theorem Same.st {K : PySem.W.Frag} {H H' : Hp} {a : Addr} {xs : List V} (e : Same H H') (h : SqT K H a xs) : SqT K H' a xs := by
  rcases h with (h | ⟨o, h⟩) | h
  · exact .inl (.inl (e _ _ h))
  · exact .inl (.inr ⟨o, e _ _ h⟩)
  · exact .inr h
end M
namespace M
open PySem PySem.Spec PyProof.Rows L2
theorem map_int_get {ns : List Int} {i : Nat} {x : V} (h : (ns.map V.int)[i]? = some x) : ∃ z, ns[i]? = some z ∧ x = .int z := by
  rw [List.getElem?_map] at h
  cases e : ns[i]? with
  | none => rw [e] at h; cases h
  | some z => rw [e] at h; exact ⟨z, rfl, (Option.some.inj h).symm⟩
/-- cells = [int(cell) for cell in script] -/
def cellsOf (d : List Int) (ns : List Int) : List Int := if ns = [] then d else ns
theorem same_hp {H H' : Hp} {a : Addr} {o : HO} (e : Same H H') (h : H a = some o) : H' a = some o := e a o h
theorem x_cut0 {σ : St} {H : Hp} {nx bk ct : St → Hp → Prop} {rt : VK} {ts tu : TS} (h : ts ⟨fun σ' H' => σ' = σ ∧ H' = H, rt, bk, ct⟩ σ H) (k : tu ⟨nx, rt, bk, ct⟩ σ H) : C8.tCut ts tu ⟨nx, rt, bk, ct⟩ σ H :=
  ⟨fun σ' H' => σ' = σ ∧ H' = H, h, fun σ' H' ⟨e1, e2⟩ => by rw [e1, e2]; exact k⟩
/-- the law's def -/
theorem fn_mk {P : Program} {w : World} {K : PySem.W.Frag} {mg : Str → Option Value} {base : Heap} {x : Str} {st : Stmt} {f : Addr} {fd : FuncData} {N ps : List Str} {k : Nat} {sp : Sp} (F : FunD K x x (defArgs st) (defBody st) (defScope st) [] [] f fd) (S : FnScope N ps (defScope st))
    (len : ∀ vs H Q E, sp vs H Q E → vs.length = ps.length)
    (hbody : ∀ (cdv : Value) (A : Around) (outer : List Env) (s : Shared) (H : Hp) (vs : List V) (Q : VK) (E : XK), Room k (A.deeper (envOfC x (defScope st) s.heap.objs.size f cdv)) → sp vs H Q E →
      ∃ t, PSs (cxOf CX0 P w K mg base N x (defScope st) f cdv A outer s H E).nox (defBody st) t ∧ t ⟨fun _ H' => Q .non H', Q, fun _ _ => False, fun _ _ => False⟩ (start N vs) H) : FnOk P w K mg base CX0 (k + 1) f fd ps sp :=
  F.ok S len fun cdv A outer s H vs Q E hr h => by
    obtain ⟨t, h1, h2⟩ := hbody cdv A outer s H vs Q E hr h
    exact ⟨t, h1.nox, h2⟩
end M
namespace XM
open PySem PySem.W PySem.Calls PyProof.Rows PySem.HandSPX
/-! ## exceptions of the program's own: class C(M), M(ValueError), __init__(self, f, ..): super().__init__(text); self.f = f .. -/
/-- a value that str() takes -/
def Txtable (v : Value) : Prop := (∃ i t, v = .int i t ∧ i.natAbs < 1000000000) ∨ (∃ z t, v = .str z t ∧ z.length ≤ 1000)
section
variable {prog : Program} {w : World} {A : Around} {E : Value → Shared → Prop} {s : Shared}
theorem toStr_len {i : Int} (h : i.natAbs < 1000000000) : (PySem.Str.ofString (toString i)).length ≤ 1000 := by
  by_cases h0 : 0 ≤ i
  · exact Nat.le_trans (toString_length_le (k := 10) h0 (by decide) (by omega)) (by decide)
  · obtain ⟨n, rfl⟩ : ∃ n : Nat, i = -((n + 1 : Nat) : Int) := ⟨i.natAbs - 1, by omega⟩
    have e : toString (-((n + 1 : Nat) : Int)) = "-" ++ toString ((n + 1 : Nat) : Int) := rfl
    rw [e]
    have z := toString_length_le (k := 10) (v := ((n + 1 : Nat) : Int)) (by omega) (by decide) (by omega)
    rw [PySem.ofString_length] at z ⊢
    rw [String.length_append]
    have e1 : ("-" : String).length = 1 := by decide
    omega
theorem log2_lt {i : Int} (h : i.natAbs < 1000000000) : i.natAbs.log2 < 1920 := by
  have h2 : i.natAbs < 2 ^ 30 := by omega
  exact Nat.lt_of_lt_of_le (PySem.Flt.log2_lt_of (by decide) h2) (by decide)
/-- what an expression of texts gives -/
def EvT (prog : Program) (w : World) (A : Around) (env : Env) (n : Nat) (e : PySem.Expr) (h : Heap) : Prop :=
  ∀ (g : Array GenState) (d : Drawn) (t : Nat) (os : OsState) (h' : Heap) (E : Value → Shared → Prop) (Q : Value → Shared → Prop), (∀ b o, h.get? b = some o → h'.get? b = some o) →
    (∀ z tk t', z.length ≤ n → Q (.str z tk) ⟨h', g, d, t', os⟩) → wpAny (model prog w) A (eval e env) Q E ⟨h', g, d, t, os⟩
variable {env : Env} {h : Heap} {m : Str → Option Value}
theorem evT_c {z : Str} {j : Nat} {pos : Pos} {n : Nat} (hn : z.length ≤ n) : EvT prog w A env n (.Constant (.str z) j pos) h := fun g d t os h' E Q _ q => Calls.Constant_str (q z _ _ hn)
theorem evT_add {a b : PySem.Expr} {pos : Pos} {n k l : Nat} (ha : EvT prog w A env n a h) (hb : EvT prog w A env k b h) (hl : n + k ≤ l) (hs : l ≤ sizeLine) : EvT prog w A env l (.BinOp a .Add b pos) h := fun g d t os h' E Q kp q => by
  refine wpAny_BinOp (ha g d t os h' _ _ kp fun z tk t1 hz => hb g d t1 os h' _ _ kp fun y tk2 t2 hy => ?_)
  have e : (z ++ y).length = z.length + y.length := PySem.Str.length_append z y
  exact PyProof.Rows.add_str (fun t' tk => q _ _ _ (by omega)) (by omega)
/-- what the modules' names are -/
structure Glb (h : Heap) : Prop where
  ex : ∃ mg mb, h.Ns mainGlobals mg ∧ h.Ns builtinsNs mb ∧ mg "str" = none ∧ mg "super" = none ∧ mb "str" = some (.type "str") ∧ mb "super" = some (.type "super")
theorem Glb.keeps {h h' : Heap} (G : Glb h) (k : ∀ b o, h.get? b = some o → h'.get? b = some o) : Glb h' := by
  obtain ⟨mg, mb, a, b, r⟩ := G.ex
  exact ⟨mg, mb, a.keeps k, b.keeps k, r⟩
theorem evT_str {x : Str} {p1 p2 pos : Pos} {v : Value} {n : Nat} (G : Glb h) (hn : h.Ns env.locals m) (hv : m x = some v) (tv : Txtable v) (hg : env.globals = mainGlobals) (hb : env.builtins = builtinsNs) (hk : env.scope.kind = .function) (hx : env.kindOf "str" = some .globalImplicit) (hl : env.kindOf x = some .local)
    (hd : (x == ("__debug__" : Str)) = false) (h1000 : 1000 ≤ n) (hs : starEach [.Name x p2] env = (false, eval (.Name x p2) env) :: starEach [] env := by rfl) (hpl : (backTo pos (starEach [] env)).any (·.1) = false := by rfl) : EvT prog w A env n (.Call (.Name "str" p1) [.Name x p2] [] pos) h := fun g d t os h' E Q kp q => by
  obtain ⟨mg, mb, a, b, e1, e2, e3, e4⟩ := (G.keeps kp).ex
  refine wpAny_Call_Name_kw (Calls.Name_function_global hk hx (Calls.loadGlobal_builtin (by rw [hg]; exact a) e1 (by rw [hb]; exact b) e3 ?_))
  refine PyProof.Rows.callWith_type1 ?_ hs hpl
  rw [hs]
  show wpAny _ _ (spliced ((false, eval (.Name x p2) env) :: backTo pos (starEach [] env))) _ _ _
  refine Calls.spliced_cons (wpAny_Name (wpAny_loadName_local hk hl (hn.keeps kp) hv ?_) hd)
  refine Calls.spliced_nil ?_
  rcases tv with ⟨i, tk, rfl, hi⟩ | ⟨z, tk, rfl, hz⟩
  · exact PySem.P.str_of_int (log2_lt hi) (q _ _ _ (Nat.le_trans (toStr_len hi) h1000))
  · exact PySem.P.str_of_str (q _ _ _ (Nat.le_trans hz h1000))
end
/-- what the written part says of such a class: C itself, its __init__ at fI, the code at cda, the cell at cc -/
structure ExcT (prog : Program) (K : Frag) (C fI : Addr) (qual : Str) (params : Arguments) (body : List Stmt) (scope : Scope) (fs : List Str) : Prop where
  cls : ∃ nm q N bs bm sn sub ab col dd k0 k1 k2 k3 k5, K.lookup C = some (excClassObj nm q C N bs bm true sn sub ab col dd k0 k1 k2 k3 k5 "ValueError.__new__") ∧ refsVE bm = true
  sup : ks_superIn K C C "__init__" = some (some (.builtin "ValueError.__init__"))
  sVE : subIn K (.ref C) (.type "ValueError") = some true
  sCC : mroIn K C (.ref C) = some true
  sa : findIn K (.ref C) "__setattr__" = some (some (.builtin "object.__setattr__"))
  noN : ∀ f ∈ fs, findIn K (.ref C) f = some none
  iC : findIn K (.ref C) "__init__" = some (some (.ref fI))
  tI : typeIn K (.ref fI) = some (.type "function")
  kC : keepIn K (.ref C) = true
  exC : subIn K (.ref C) (.type "BaseException") = some true
  tyC : typeIn K (.ref C) = some (.type "type")
  tp : nsIn K cStatics "thirdparty.any" = some none
  fn : ∃ (oc : Value) (od : Option Addr) (doc pm : Value) (an : Option Addr) (cda cc : Addr) (ct : Value) (osl : Array (Option Value)) (oa : Obj) (vs : Array Value) (file : Str) (tf : Tok) (ob : Obj),
    K.lookup fI = some ⟨oc, od, .func (ksFn "__init__" qual params body scope .none .none doc pm an (.ref cda) ct cc), osl⟩ ∧ codeIn K (.ref cda) qual = true ∧
    K.lookup cda = some oa ∧ oa.data = .fields vs ∧ vs[2]? = some (.str file tf) ∧ (prog.main.file == file) = true ∧ K.lookup cc = some ob ∧ ob.data = .cell (some (.ref C))
section
variable {prog : Program} {w : World} {A : Around} {E : Value → Shared → Prop} {K : Frag} {C fI : Addr} {qual : Str} {params : Arguments} {body : List Stmt} {scope : Scope} {fs : List Str}
/-- what excClassObj says, as class data -/
theorem ExcT.cd (T : ExcT prog K C fI qual params body scope fs) : ∃ cd, clsIn K C = some cd ∧ refsVE cd.mro = true ∧ cd.hasDict = true ∧ ∃ oC, K.lookup C = some oC ∧ oC.data = .cls cd := by
  obtain ⟨nm, q, N, bs, bm, sn, sub, ab, col, dd, k0, k1, k2, k3, k5, hC, hbm⟩ := T.cls
  refine ⟨{ name := nm, bases := bs, mro := .ref C :: bm, ns := N, qualname := q, hasDict := true, slotNames := sn, subclasses := sub, abstract := ab, collection := col, hasDel := false }, ?_, hbm, rfl, _, hC, rfl⟩
  unfold clsIn
  rw [hC] <;> rfl
theorem super_init {bd : List Stmt} {L x t0 cda cc : Addr} {h : Heap} {g : Array GenState} {d : Drawn} {t : Nat} {os : OsState} {p0 p1 p2 p3 p4 : Pos} {e : PySem.Expr} {n : Nat} {m : Str → Option Value} {Q : Flow → Shared → Prop} {ar : Arg} {of oa ob : Obj} {fd : FuncData} {vs : Array Value} {file : Str} {tf : Tok}
    (T : ExcT prog K C fI qual params body scope fs) (X : K.In h) (G : Glb h) (hf : h.get? fI = some of) (hfd : of.data = .func fd) (hp : (fd.params.posonlyargs ++ fd.params.args).head? = some ar) (har : m ar.arg = some (.ref x))
    (hn : h.Ns L m) (hx : h.get? x = some (excO C t0)) (hnx : K.lookup x = none)
    (hcc : h.get? cda = some oa) (hoc : oa.data = .fields vs) (hvs : vs[2]? = some (.str file tf)) (hfile : (prog.main.file == file) = true) (hcell : h.get? cc = some ob) (hcv : ob.data = .cell (some (.ref C)))
    (htop : (prog.main.scope.names.lookup ("super" : Str)).isSome = false)
    (hks : scope.names.lookup ("super" : Str) = some .globalImplicit) (hkc : scope.names.lookup ("__class__" : Str) = some .free) (hka : scope.names.lookup ar.arg = some .local) (hk : scope.kind = .function)
    (he : EvT prog w A (ksEnv qual scope L fI (.ref cda) cc) n e h)
    (hev : ∃ pl : Sem Bool, eval (.Call (.Attribute (.Call (.Name "super" p0) [] [] p1) "__init__" p2) [e] [] p3) (ksEnv qual scope L fI (.ref cda) cc) = (do
      let ov ← attributeBase (.Call (.Name "super" p0) [] [] p1) "__init__" (ksEnv qual scope L fI (.ref cda) cc) (eval (.Call (.Name "super" p0) [] [] p1) (ksEnv qual scope L fI (.ref cda) cc))
      standAt p2.atName
      let (f, first) ← holding [ov] (getMethod ov "__init__" pl)
      callWith p3 f first (backTo p3 (starEach [e] (ksEnv qual scope L fI (.ref cda) cc))) []))
    (hsw : swapsWith (.Call (.Attribute (.Call (.Name "super" p0) [] [] p1) "__init__" p2) [e] [] p3) none p4.line (ksEnv qual scope L fI (.ref cda) cc) = pure false)
    (hse : starEach [e] (ksEnv qual scope L fI (.ref cda) cc) = (false, eval e (ksEnv qual scope L fI (.ref cda) cc)) :: starEach [] (ksEnv qual scope L fI (.ref cda) cc))
    (hpl : (backTo p3 (starEach [] (ksEnv qual scope L fI (.ref cda) cc))).any (·.1) = false)
    (q : ∀ h' t' t1, (∀ b o, b ≠ x → h.get? b = some o → h'.get? b = some o) → h'.get? x = some (excO C t1) → Q .next ⟨h', g, d, t', os⟩) :
    PySem.wpAt (model prog w) A (.func bd (ksEnv qual scope L fI (.ref cda) cc)) (exec (.Expr (.Call (.Attribute (.Call (.Name "super" p0) [] [] p1) "__init__" p2) [e] [] p3) p4) (ksEnv qual scope L fI (.ref cda) cc)) Q E ⟨h, g, d, t, os⟩ := by
  obtain ⟨pl, hev⟩ := hev
  obtain ⟨cd, hcd, hre, hhd, oC, hC, hCd⟩ := T.cd
  refine ks_wpAt_Expr_any (ks_wpAt_MethodCall (pl := pl) ?_ hev) (by simp [interactive, hk]) hsw
  obtain ⟨mg, mb, a, b, e1, e2, e3, e4⟩ := G.ex
  refine ks_wpAt_super_base (env := ksEnv qual scope L fI (.ref cda) cc) hks hkc (by decide) rfl hf hfd hp rfl hcc hoc hvs hfile htop ?_
  refine ks_loadName_global hk hks (Calls.loadGlobal_builtin (env := ksEnv qual scope L fI (.ref cda) cc) a e2 b e4 ⟨rfl, ?_⟩)
  refine wpAny_loadName_free hk hkc rfl ⟨_, hcell, hcv⟩ ?_
  refine wpAny_loadName_local hk hka hn har ?_
  refine ks_wpAny_isType_cls (X _ _ hC) hCd ⟨rfl, ?_⟩
  refine ks_wpAny_call_super (X _ _ hC) hCd hx rfl (fun c z => by cases z) (looks_mroIn X T.sCC) (fun h2 e5 k2 => ?_)
  have X2 : K.In h2 := X.keeps k2
  have hI : Looks (model prog w) h2 (isInstance (.ref x) (.type "ValueError")) true := (InstAt.type (od := none) ⟨k2 _ _ hx, rfl, rfl, trivial⟩).andThen (looks_subIn X2 T.sVE)
  have hxC : x ≠ C := fun z => by rw [z, hC] at hnx; cases hnx
  have hsup := T.sup
  unfold ks_superIn at hsup
  rw [hcd, Option.bind_some] at hsup
  refine kxs_getMethod kxs_ValueError (C := C) (D := C) e5 (looks_opaque X2 T.tp) (l₀ := cd.mro) (fun A Q E s k q => wpAny_bind ((looks_clsIn X2 hcd) A _ E s k (wpAny_pure q))) rfl X2 hsup hI hxC (by decide) ?_
  have k3 : ∀ b o, h.get? b = some o → (h2.push (kxs_mw "ValueError.__init__" x)).get? b = some o := fun b o z => Heap.get?_push_of_some _ (k2 b o z)
  have hu : (h2.push (kxs_mw "ValueError.__init__" x)).get? h2.objs.size = some (kxs_mw "ValueError.__init__" x) := Heap.get?_push_at rfl rfl
  refine kxs_callWith (i := "ValueError.__init__") (x := x) (by rw [hse]; show (false || (backTo p3 (starEach [] _)).any (·.1)) = false; rw [hpl]; rfl) ?_
  rw [hse]
  show wpAny _ _ (evalArgs _ true ((false, eval e (ksEnv qual scope L fI (.ref cda) cc)) :: backTo p3 (starEach [] (ksEnv qual scope L fI (.ref cda) cc))) []) _ _ _
  have hbk : backTo p3 (starEach [] (ksEnv qual scope L fI (.ref cda) cc)) = [] := rfl
  refine evalArgs_plain ?_
  rw [hbk]
  refine Calls.spliced_cons (he _ _ _ _ _ _ _ k3 fun z tk t' hz => ?_)
  refine Calls.spliced_nil ?_
  refine ⟨hu, ?_⟩
  -- the built-in __init__, bound
  obtain ⟨nm, q', N, bs, bm, sn, sub, ab, col, dd, c0, c1, c2, c3, c5, hCC, hbm⟩ := T.cls
  have hx3 : (h2.push (kxs_mw "ValueError.__init__" x)).get? x = some (excO C t0) := k3 _ _ hx
  refine wpAny_call (codeAny_of_tree ?_)
  show wpAny _ A.in1 (callAny (.ref h2.objs.size) ⟨[.str z tk], []⟩) _ _ _
  simp only [callAny]
  refine wpAny_bind (wpAny_load hu ?_)
  simp only [kxs_mw, show (Value.type "method-wrapper" == Value.type "method" || Value.type "method-wrapper" == Value.type "builtin_function_or_method" || Value.type "method-wrapper" == Value.type "method-wrapper") = true by decide, if_true]
  refine KFB.if_so (by decide) ?_
  refine wpAny_bind (check_bound_init (PySem.F.excBase_ValueError).toExcCallFacts (k3 _ _ (X _ _ hCC)) hx3 rfl ?_)
  refine wpAny_bind (wpAny_pure (wpAny_pure ?_))
  refine ⟨plainId_quiet (PySem.F.excBase_ValueError).init.plain _, codeAny_builtin (PySem.F.excBase_ValueError).initEntry ?_⟩
  exact exc_init_tree (cls := .ref C) (t0 := t0) (dv := none) (c2 := .none) (c3 := .none) (b4 := .bool false) hx3 (by rw [sizeLine_eq]; simp) fun h' k4 e6 e7 => q h' _ _ (fun b o hb ho => k4 b o hb (k3 b o ho)) e6
end
end XM
namespace XM
open PySem PySem.W PySem.Calls PyProof.Rows PySem.HandSPX L2
/-! ### the stores behind super().__init__ -/
/-- self.f = f, for each f -/
inductive IsSt : List Str → List Stmt → Prop
  | nil : IsSt [] []
  | cons {f : Str} {fs : List Str} {sts : List Stmt} {p1 p2 p3 p4 : Pos} : IsSt fs sts → IsSt (f :: fs) (.Assign [.Attribute (.Name "self" p1) f p2] (.Name f p3) p4 :: sts)
/-- what the text's scope must say -/
structure ScT (scope : Scope) (fs : List Str) : Prop where
  kind : scope.kind = .function
  self : scope.names.lookup ("self" : Str) = some .local
  loc : ∀ f ∈ fs, scope.names.lookup f = some .local
  dbg : ∀ f ∈ fs, (f == ("__debug__" : Str)) = false
theorem zip_look : ∀ {ps : List Str} {us : List Value} (nd : ps.Nodup) {i : Nat} {f : Str} {u : Value}, ps[i]? = some f → us[i]? = some u → (ps.zip us).reverse.lookup f = some u
  | [], _, _, i, f, u, h, _ => by simp at h
  | a :: ps, [], _, i, f, u, _, h => by simp at h
  | a :: ps, b :: us, nd, i, f, u, h, h2 => by
    rw [List.zip_cons_cons, List.reverse_cons, List.lookup_append]
    have nd' := List.nodup_cons.mp nd
    cases i with
    | zero =>
      have e1 : a = f := Option.some.inj h
      have e2 : b = u := Option.some.inj h2
      subst e1; subst e2
      have z : (ps.zip us).reverse.lookup a = none := by
        rw [List.lookup_eq_none_iff]
        intro p hp
        have hp' := List.mem_reverse.mp hp
        have := (List.of_mem_zip hp').1
        have ne : a ≠ p.1 := fun z => nd'.1 (by rw [z]; exact this)
        simpa using ne
      rw [z]
      simp [List.lookup]
    | succ i =>
      rw [zip_look nd'.2 (i := i) (f := f) (u := u) h h2]
      rfl
section
variable {prog : Program} {w : World} {A : Around} {E : Value → Shared → Prop} {K : Frag} {C fI : Addr} {qual : Str} {params : Arguments} {body : List Stmt} {scope : Scope} {fs : List Str} {g : Array GenState} {d : Drawn} {os : OsState} {Q : Flow → Shared → Prop}
theorem kept_but {K : Frag} {h h' : Heap} {x : Addr} (X : K.In h) (hx : K.lookup x = none) (k : ∀ b o, b ≠ x → h.get? b = some o → h'.get? b = some o) : K.In h' := fun a o e =>
  k a o (fun z => by rw [z, hx] at e; cases e) (X a o e)
theorem ns_but {h h' : Heap} {L x : Addr} {m : Str → Option Value} (n : h.Ns L m) (hx : L ≠ x) (k : ∀ b o, b ≠ x → h.get? b = some o → h'.get? b = some o) : h'.Ns L m := by
  obtain ⟨o, es, ep, ho, r⟩ := n
  exact ⟨o, es, ep, k _ _ hx ho, r⟩
theorem stores {env : Env} {x dx : Addr} {cd : ClassData} {fv : Array Value} {m : Str → Option Value} (hcd : clsIn K C = some cd) (hre : refsVE cd.mro = true) (hhd : cd.hasDict = true) (sa : findIn K (.ref C) "__setattr__" = some (some (.builtin "object.__setattr__")))
    (hk : env.scope.kind = .function) (hself : env.kindOf "self" = some .local) (hm : m "self" = some (.ref x)) (hnd : K.lookup dx = none) (hxd : x ≠ dx) (hLd : env.locals ≠ dx) :
    ∀ {l : List (Str × V)} {sts : List Stmt} {h : Heap} {t : Nat} {fz : List (Str × V)} {m0 : Str → Option Value}, IsSt (l.map (·.1)) sts → (∀ p ∈ l, findIn K (.ref C) p.1 = some none) → (∀ p ∈ l, env.kindOf p.1 = some .local) → (∀ p ∈ l, (p.1 == ("__debug__" : Str)) = false) →
      (∀ p ∈ l, ∃ u, m p.1 = some u ∧ RelV p.2 u) → K.In h → h.get? x = some ({ cls := .ref C, dict := some dx, data := .fields fv } : Obj) → h.Ns1 dx m0 → (∀ f, RelO (fz.lookup f) (m0 f)) → fz.length + l.length ≤ 900 → h.Ns env.locals m →
      (∀ h' t', (∀ b o, b ≠ dx → h.get? b = some o → h'.get? b = some o) → (∃ mA, h'.Ns1 dx mA ∧ ∀ f, RelO ((l.reverse ++ fz).lookup f) (mA f)) → Q .next ⟨h', g, d, t', os⟩) →
      wpAny (model prog w) A (execs sts env) Q E ⟨h, g, d, t, os⟩
  | [], sts, h, t, fz, m0, S, _, _, _, _, X, hx, hn0, hr, _, hn, q => by
    cases S
    exact wpAny_execs_nil (q h t (fun b o _ e => e) ⟨m0, hn0, hr⟩)
  | p :: l, sts, h, t, fz, m0, S, no, lo, db, va, X, hx, hn0, hr, hz, hn, q => by
    obtain ⟨f, v⟩ := p
    cases S with
    | cons S' =>
      obtain ⟨u, hu, ru⟩ := va (f, v) (List.mem_cons_self ..)
      have hu' : m f = some u := hu
      have ru' : RelV v u := ru
      have hlen : (l.length + 1) = ((f, v) :: l).length := rfl
      refine wpAny_execs_cons (plainObj_wpAny_Assign_Attribute ?_)
      refine wpAny_Name (wpAny_loadName_local hk (lo (f, v) (List.mem_cons_self ..)) hn hu' ?_) (db (f, v) (List.mem_cons_self ..))
      refine wpAny_Name (wpAny_loadName_local hk hself hn hm ?_) (by decide)
      have hw := within_of hr
      obtain ⟨oD, _, _, hoD, _, _⟩ := hn0.count hw
      refine set_plain X (ox := { cls := .ref C, dict := some dx, data := .fields fv }) (od := some oD) ⟨hx, rfl, rfl, hoD⟩ sa ?_
      refine PySem.OEX.osa_old X hx hn0 hw (by rw [List.length_map]; omega) hcd hre hhd (no (f, v) (List.mem_cons_self ..)) (fun h' tk' k hn' => ?_)
      refine stores hcd hre hhd sa hk hself hm hnd hxd hLd (l := l) (fz := (f, v) :: fz) S' (fun p hp => no p (List.mem_cons_of_mem _ hp)) (fun p hp => lo p (List.mem_cons_of_mem _ hp)) (fun p hp => db p (List.mem_cons_of_mem _ hp)) (fun p hp => va p (List.mem_cons_of_mem _ hp))
        (kept_but X hnd k) (k _ _ hxd hx) hn' (relO_put ru' hr) (by rw [List.length_cons] at hz ⊢; omega) (ns_but hn hLd k) fun h2 t2 k2 r2 => ?_
      refine q h2 t2 (fun b o hb e => k2 b o hb (k b o hb e)) ?_
      rw [List.reverse_cons, List.append_assoc]
      exact r2
/-- all of them, of a fresh exception -/
theorem stores0 {env : Env} {x t0 : Addr} {cd : ClassData} {m : Str → Option Value} (hcd : clsIn K C = some cd) (hre : refsVE cd.mro = true) (hhd : cd.hasDict = true) (sa : findIn K (.ref C) "__setattr__" = some (some (.builtin "object.__setattr__")))
    (hk : env.scope.kind = .function) (hself : env.kindOf "self" = some .local) (hm : m "self" = some (.ref x)) (hnx : K.lookup x = none) (hLx : env.locals ≠ x)
    {l : List (Str × V)} {sts : List Stmt} {h : Heap} {t : Nat} (hl0 : l ≠ []) (S : IsSt (l.map (·.1)) sts) (no : ∀ p ∈ l, findIn K (.ref C) p.1 = some none) (lo : ∀ p ∈ l, env.kindOf p.1 = some .local) (db : ∀ p ∈ l, (p.1 == ("__debug__" : Str)) = false)
    (va : ∀ p ∈ l, ∃ u, m p.1 = some u ∧ RelV p.2 u) (X : K.In h) (hx : h.get? x = some (excO C t0)) (hz : l.length ≤ 900) (hn : h.Ns env.locals m)
    (q : ∀ h' t' dx, (∀ b o, b ≠ x → h.get? b = some o → h'.get? b = some o) → h.objs.size ≤ dx → dx ≠ x → h'.get? x = some ({ cls := .ref C, dict := some dx, data := .fields #[.ref t0, .none, .none, .none, .bool false, .none] } : Obj) →
      (∃ mA, h'.Ns1 dx mA ∧ ∀ f, RelO (l.reverse.lookup f) (mA f)) → Q .next ⟨h', g, d, t', os⟩) :
    wpAny (model prog w) A (execs sts env) Q E ⟨h, g, d, t, os⟩ := by
  cases l with
  | nil => exact absurd rfl hl0
  | cons p l =>
    obtain ⟨f, v⟩ := p
    cases S with
    | cons S' =>
      obtain ⟨u, hu, ru⟩ := va (f, v) (List.mem_cons_self ..)
      have hu' : m f = some u := hu
      have ru' : RelV v u := ru
      refine wpAny_execs_cons (plainObj_wpAny_Assign_Attribute ?_)
      refine wpAny_Name (wpAny_loadName_local hk (lo (f, v) (List.mem_cons_self ..)) hn hu' ?_) (db (f, v) (List.mem_cons_self ..))
      refine wpAny_Name (wpAny_loadName_local hk hself hn hm ?_) (by decide)
      refine set_plain X (ox := excO C t0) (od := none) ⟨hx, rfl, rfl, trivial⟩ sa ?_
      refine exc_osa X hx hcd hre hhd (no (f, v) (List.mem_cons_self ..)) (fun h' tk' dx k dn dne hx' hn' => ?_)
      have nd : ∀ {b : Addr} {o : Obj}, h.get? b = some o → b ≠ dx := fun {b o} q => Nat.ne_of_lt (Nat.lt_of_lt_of_le (Heap.lt_size q) dn)
      have hkd : K.lookup dx = none := by
        cases e : K.lookup dx with
        | none => rfl
        | some o => exact absurd rfl (nd (X _ _ e))
      have hLd : env.locals ≠ dx := by
        obtain ⟨o, _, _, ho, _⟩ := hn
        exact nd ho
      refine stores (l := l) (fz := [(f, v)]) hcd hre hhd sa hk hself hm hkd (Ne.symm dne) hLd S' (fun p hp => no p (List.mem_cons_of_mem _ hp)) (fun p hp => lo p (List.mem_cons_of_mem _ hp)) (fun p hp => db p (List.mem_cons_of_mem _ hp)) (fun p hp => va p (List.mem_cons_of_mem _ hp))
        (kept_but X hnx k) hx' hn' (relO_put (fs := []) ru' fun g => True.intro) (by rw [List.length_cons] at hz; simp only [List.length_cons, List.length_nil]; omega) (ns_but hn hLx k) fun h2 t2 k2 r2 => ?_
      refine q h2 t2 dx (fun b o hb e => k2 b o (nd e) (k b o hb e)) dn dne (k2 _ _ (Ne.symm dne) hx') ?_
      rw [List.reverse_cons]
      exact r2
end
end XM
namespace XM
open PySem PySem.W PySem.Calls PyProof.Rows PySem.HandSPX L2
/-- what the text of such an __init__ says: (self, f, ..): super().__init__(e); self.f = f .. -/
structure ExcS (prog : Program) (qual : Str) (params : Arguments) (scope : Scope) (fs : List Str) (e : PySem.Expr) (p0 p1 p2 p3 p4 : Pos) (sts : List Stmt) (n : Nat) : Prop where
  sc : ScT scope fs
  st : IsSt fs sts
  nd : (("self" : Str) :: fs).Nodup
  ne : fs ≠ []
  len : fs.length ≤ 900
  hp : ∃ ar, (params.posonlyargs ++ params.args).head? = some ar ∧ ar.arg = "self"
  hks : scope.names.lookup ("super" : Str) = some .globalImplicit
  hkc : scope.names.lookup ("__class__" : Str) = some .free
  top : (prog.main.scope.names.lookup ("super" : Str)).isSome = false
  cell : ∀ x ∈ scope.names, x.2 ≠ .cell
  co : scope.isCoroutine = false
  gen : scope.isGenerator = false
  bind : ∀ (body : List Stmt) (doc pm : Value) (an : Option Addr) (cdv ct : Value) (cc : Addr) (us : List Value), us.length = fs.length + 1 → bindArgs (ksFn "__init__" qual params body scope .none .none doc pm an cdv ct cc) ⟨us, []⟩ = pure ((("self" : Str) :: fs).zip us)
  hev : ∀ (L fI cda cc : Addr), ∃ pl : Sem Bool, eval (.Call (.Attribute (.Call (.Name "super" p0) [] [] p1) "__init__" p2) [e] [] p3) (ksEnv qual scope L fI (.ref cda) cc) = (do
      let ov ← attributeBase (.Call (.Name "super" p0) [] [] p1) "__init__" (ksEnv qual scope L fI (.ref cda) cc) (eval (.Call (.Name "super" p0) [] [] p1) (ksEnv qual scope L fI (.ref cda) cc))
      standAt p2.atName
      let (f, first) ← holding [ov] (getMethod ov "__init__" pl)
      callWith p3 f first (backTo p3 (starEach [e] (ksEnv qual scope L fI (.ref cda) cc))) [])
  hsw : ∀ (L fI cda cc : Addr), swapsWith (.Call (.Attribute (.Call (.Name "super" p0) [] [] p1) "__init__" p2) [e] [] p3) none p4.line (ksEnv qual scope L fI (.ref cda) cc) = pure false
  hse : ∀ (L fI cda cc : Addr), starEach [e] (ksEnv qual scope L fI (.ref cda) cc) = (false, eval e (ksEnv qual scope L fI (.ref cda) cc)) :: starEach [] (ksEnv qual scope L fI (.ref cda) cc)
  txt : ∀ (w : World) (A : Around) (h : Heap) (m : Str → Option Value) (L fI cda cc : Addr), Glb h → h.Ns L m → (∀ f ∈ fs, ∃ v, m f = some v ∧ Txtable v) → EvT prog w A (ksEnv qual scope L fI (.ref cda) cc) n e h
section
variable {prog : Program} {w : World} {A : Around} {E : Value → Shared → Prop} {R : Result → Shared → Prop} {K : Frag} {C fI : Addr} {qual : Str} {params : Arguments} {scope : Scope} {fs : List Str} {g : Array GenState} {d : Drawn} {t : Nat} {os : OsState} {e : PySem.Expr} {p0 p1 p2 p3 p4 : Pos} {sts : List Stmt} {n : Nat}
theorem init_run {x t0 : Addr} {h : Heap} {vs : List V} {us : List Value} (T : ExcT prog K C fI qual params (.Expr (.Call (.Attribute (.Call (.Name "super" p0) [] [] p1) "__init__" p2) [e] [] p3) p4 :: sts) scope fs) (S : ExcS prog qual params scope fs e p0 p1 p2 p3 p4 sts n)
    (X : K.In h) (G : Glb h) (hlim : h.NoLimit) (hx : h.get? x = some (excO C t0)) (hnx : K.lookup x = none) (hroom : A.depth < recursionLimit) (hl : vs.length = fs.length) (rv : Vals vs us) (tx : ∀ u ∈ us, Txtable u)
    (hq : ∀ h' tk dx t1, (∀ b o, b ≠ x → h.get? b = some o → h'.get? b = some o) → h.objs.size ≤ dx → dx ≠ x → h'.get? x = some ({ cls := .ref C, dict := some dx, data := .fields #[.ref t1, .none, .none, .none, .bool false, .none] } : Obj) →
      (∃ mA, h'.Ns1 dx mA ∧ ∀ f, RelO ((fs.zip vs).reverse.lookup f) (mA f)) → R (.ok (.ret .none)) ⟨h', g, d, tk, os⟩) :
    codeAny (model prog w) A (.call (.ref fI) ⟨.ref x :: us, []⟩) R ⟨h, g, d, t, os⟩ := by
  obtain ⟨oc, od, doc, pm, an, cda, cc, ct, osl, oa, avs, file, tf, ob, ho, hcd, hca, hoa, hfi, hfile, hcc, hob⟩ := T.fn
  obtain ⟨cd, hcl, hre, hhd, oC, hC, hCd⟩ := T.cd
  have hlu : us.length = fs.length := by rw [← rv.length]; exact hl
  have hloc : ∀ y ∈ (("self" : Str) :: fs).zip (Value.ref x :: us), scope.names.lookup y.1 = some .local := fun y hy => by
    rcases List.mem_cons.mp (List.of_mem_zip hy).1 with z | z
    · rw [z]; exact S.sc.self
    · exact S.sc.loc _ z
  refine ks_codeAny_call_defAt (fd := ksFn "__init__" qual params (.Expr (.Call (.Attribute (.Call (.Name "super" p0) [] [] p1) "__init__" p2) [e] [] p3) p4 :: sts) scope .none .none doc pm an (.ref cda) ct cc) (binds := (("self" : Str) :: fs).zip (Value.ref x :: us)) hroom (X _ _ ho) rfl hlim (codeRec_of X hcd) rfl
    (.of_eq (S.bind _ _ _ _ _ _ _ _ (by rw [List.length_cons, hlu]))) S.cell hloc (fun h₁ hns hk₁ => ?_) S.co S.gen S.sc.kind
  have X₁ : K.In h₁ := X.keeps hk₁
  have hself : ((("self" : Str) :: fs).zip (Value.ref x :: us)).reverse.lookup ("self" : Str) = some (Value.ref x) := zip_look S.nd (i := 0) rfl rfl
  have hval : ∀ {i : Nat} {f : Str} {u : Value}, fs[i]? = some f → us[i]? = some u → ((("self" : Str) :: fs).zip (Value.ref x :: us)).reverse.lookup f = some u := fun {i f u} a b => zip_look S.nd (i := i + 1) a b
  have hLx : h.objs.size ≠ x := Nat.ne_of_gt (Heap.lt_size hx)
  obtain ⟨ar, har, har2⟩ := S.hp
  refine ks_wpAt_execs_cons ?_
  refine super_init (x := x) (t0 := t0) T X₁ (G.keeps hk₁) (hk₁ _ _ (X _ _ ho)) rfl har (by rw [har2]; exact hself) hns (hk₁ _ _ hx) hnx (hk₁ _ _ (X _ _ hca)) hoa hfi hfile (hk₁ _ _ (X _ _ hcc)) hob S.top S.hks S.hkc (by rw [har2]; exact S.sc.self) S.sc.kind
    (S.txt w _ h₁ _ _ fI cda cc (G.keeps hk₁) hns fun f hf => ?_) (S.hev _ _ _ _) (S.hsw _ _ _ _) (S.hse _ _ _ _) rfl fun h' t' t1 k' hx' => ?_
  · obtain ⟨i, hi⟩ := List.getElem?_of_mem hf
    have hiu : i < us.length := by rw [hlu]; exact (List.getElem?_eq_some_iff.mp hi).1
    exact ⟨us[i], hval hi (List.getElem?_eq_getElem hiu), tx _ (List.getElem_mem hiu)⟩
  · show PySem.wpAt _ _ _ (execs sts _) _ _ _
    have hmap : (fs.zip vs).map (·.1) = fs := List.map_fst_zip (by rw [hl]; exact Nat.le_refl _)
    have hmem : ∀ p ∈ fs.zip vs, p.1 ∈ fs := fun p hp => (List.of_mem_zip hp).1
    have hne : fs.zip vs ≠ [] := fun z => S.ne (by rw [← hmap, z]; rfl)
    refine PySem.wpAt_of_wpAny (stores0 (env := ksEnv qual scope h.objs.size fI (.ref cda) cc) (x := x) (t0 := t1) (l := fs.zip vs) hcl hre hhd T.sa S.sc.kind S.sc.self hself hnx hLx hne (by rw [hmap]; exact S.st) (fun p hp => T.noN _ (hmem p hp)) (fun p hp => S.sc.loc _ (hmem p hp)) (fun p hp => S.sc.dbg _ (hmem p hp)) (fun p hp => ?_)
      (kept_but X₁ hnx k') hx' (by rw [List.length_zip]; have := S.len; omega) (ns_but hns hLx k') fun h2 t2 dx k2 dn dne hx2 hd2 => ?_)
    · obtain ⟨i, hi⟩ := List.getElem?_of_mem hp
      obtain ⟨hi1, hi2⟩ := List.getElem?_zip_eq_some.mp hi
      obtain ⟨u, hu, ru⟩ := rv.get hi2
      exact ⟨u, hval hi1 hu, ru⟩
    · have dsz : h.objs.size ≤ dx := by
        obtain ⟨oL, _, _, hoL, _⟩ := hns
        have z : h.objs.size < h'.objs.size := Heap.lt_size (k' _ _ hLx hoL)
        exact Nat.le_of_lt (Nat.lt_of_lt_of_le z dn)
      exact hq h2 t2 dx t1 (fun b o hb z => k2 b o hb (k' b o hb (hk₁ b o z))) dsz dne hx2 hd2
end
end XM
namespace XM
open PySem PySem.W PySem.Calls PyProof.Rows PySem.HandSPX L2
def TxtV (v : V) : Prop := (∃ i, v = .int i ∧ i.natAbs < 1000000000) ∨ (∃ z, v = .str z ∧ z.length ≤ 1000)
theorem TxtV.to {v : V} {u : Value} (h : TxtV v) (r : RelV v u) : Txtable u := by
  rcases h with ⟨i, rfl, hi⟩ | ⟨z, rfl, hz⟩
  · obtain ⟨t, rfl⟩ := r
    exact .inl ⟨_, _, rfl, hi⟩
  · obtain ⟨t, rfl⟩ := r
    exact .inr ⟨_, _, rfl, hz⟩
/-- C(e, ..) : the exception's fields -/
def tMkE (C : Addr) (fs : List Str) (ta : TA) : L2.St → Hp → XK → Prop := fun σ H Q => ta σ H fun vs H1 => vs.length = fs.length ∧ (∀ v ∈ vs, TxtV v) ∧ ∀ d, H1 d = none → Q (.ref C) (some d) (upd H1 d (.xd (fs.zip vs).reverse))
section
variable {X : Cx} {C fI : Addr} {qual : Str} {params : Arguments} {scope : Scope} {fs : List Str} {e : PySem.Expr} {p0 p1 p2 p3 p4 : Pos} {sts : List Stmt} {n : Nat}
theorem glb_of {pins : List (Addr × Obj)} {σ : L2.St} {H : Hp} {s : Shared} (I : Inv X pins σ H s) (h1 : X.mg "str" = none) (h2 : X.mg "super" = none) : Glb s.heap := by
  obtain ⟨mb, b1, b2⟩ := I.mod.blt
  exact ⟨X.mg, mb, I.mod.glob.keeps I.bk, b1.keeps I.bk, h1, h2, (b2 "str" (by decide)).trans (by decide +kernel), (b2 "super" (by decide)).trans (by decide +kernel)⟩
theorem pmk_exc {x : Str} {a : Expr} {es : List Expr} {ta : TA} {p pos : Pos} {k : Nat} (T : ExcT X.prog X.K C fI qual params (.Expr (.Call (.Attribute (.Call (.Name "super" p0) [] [] p1) "__init__" p2) [e] [] p3) p4 :: sts) scope fs) (S : ExcS X.prog qual params scope fs e p0 p1 p2 p3 p4 sts n)
    (hr : Room k X.A) (ha : PA X (a :: es) ta) (gC : X.mg x = some (.ref C)) (h1 : X.mg "str" = none) (h2 : X.mg "super" = none) (hg : Gl X x := by rfl) (hdb : (x == ("__debug__" : Str)) = false := by decide)
    (he : starEach (a :: es) X.env = (false, eval a X.env) :: starEach es X.env := by rfl) (hpl : (backTo pos (starEach es X.env)).any (·.1) = false := by rfl) :
    L2N.PMk X (.Call (.Name x p) (a :: es) [] pos) (tMkE C fs ta) := by
  intro pins s σ H Q I h
  refine wpAny_Call_Name_kw (ld_glob I hg gC ?_ hdb)
  refine PySem.W.callWith_K (h₀ := X.base) I.ok.mod.kin T.kC (thn (ha.run pos pins s σ H _ I h) fun us s1 hh => ?_) he hpl
  obtain ⟨vs, H1, I1, r1, hvl, htx, q1⟩ := hh
  refine ⟨I1.kIn, ?_⟩
  show wpAny _ _ (call (.ref C) us) _ _ _
  have hlim := I1.nolimit
  have GB := glb_of I1 h1 h2
  obtain ⟨nm, q, N, bs, bm, sn, sub, ab, col, dd, k0, k1, k2, k3, k5, hC, hbm⟩ := T.cls
  obtain ⟨hp, g, dr, tk, os⟩ := s1
  have KI : X.K.In hp := I1.kIn
  have kk : ∀ b o, hp.get? b = some o → ((hp.push (kdv_tup us)).push (excO C hp.objs.size)).get? b = some o := fun b o e => Heap.get?_push_of_some _ (Heap.get?_push_of_some _ e)
  have hget : ((hp.push (kdv_tup us)).push (excO C hp.objs.size)).get? (hp.objs.size + 1) = some (excO C hp.objs.size) := by heap_get
  have hnx : X.K.lookup (hp.objs.size + 1) = none := by
    cases e : X.K.lookup (hp.objs.size + 1) with
    | none => rfl
    | some o =>
      have z : hp.get? (hp.objs.size + 1) = some o := KI _ _ e
      exact absurd (Nat.lt_of_succ_lt (Heap.lt_size z)) (Nat.lt_irrefl _)
  have hus : us.length ≤ sizeLine := by
    rw [← Paired.length r1, hvl, sizeLine_eq]
    have := S.len
    omega
  have htu : ∀ u ∈ us, Txtable u := fun u hu => by
    obtain ⟨i, hi⟩ := List.getElem?_of_mem hu
    have hiv : i < vs.length := by rw [r1.length]; exact (List.getElem?_eq_some_iff.mp hi).1
    obtain ⟨u', hu', ru⟩ := r1.get (List.getElem?_eq_getElem hiv)
    rw [hi] at hu'
    cases hu'
    exact (htx _ (List.getElem_mem hiv)).to ru
  refine wpAny_call (call_own F.excBase_ValueError (fun Y => refsVE_contains Y bm hbm) (KI _ _ hC) (looks_findIn KI T.iC) (fun self => bind_fn KI self T.tI) hus ?_)
  refine init_run (x := hp.objs.size + 1) (t0 := hp.objs.size) T S (KI.keeps kk) (GB.keeps kk) (hlim.keeps kk) hget hnx (by have := hr.dp; show X.A.depth + 1 < _; omega) hvl r1 htu fun h' tk' dx t1 k' dn dne hx hd => ?_
  refine ⟨rfl, ?_⟩
  show L2N.MkP X pins σ Q (.ref (hp.objs.size + 1)) ⟨h', g, dr, tk', os⟩
  have sz2 : ((hp.push (kdv_tup us)).push (excO C hp.objs.size)).objs.size = hp.objs.size + 1 + 1 := by rw [Heap.size_push, Heap.size_push]
  have dn' : hp.objs.size ≤ dx := by rw [sz2] at dn; omega
  have old0 : ∀ b o, hp.get? b = some o → h'.get? b = some o := fun b o e => k' b o (Nat.ne_of_lt (Nat.lt_succ_of_lt (Heap.lt_size e))) (kk b o e)
  obtain ⟨mA, hns, rel⟩ := hd
  obtain ⟨G', g1, g2⟩ := restrict h' fun b => decide (b ≠ hp.objs.size + 1)
  have gk : ∀ b, b ≠ hp.objs.size + 1 → G'.get? b = h'.get? b := fun b hb => g1 b (decide_eq_true hb)
  have ge : G'.get? (hp.objs.size + 1) = none := g2 (hp.objs.size + 1) (by simp)
  have old : ∀ b o, hp.get? b = some o → G'.get? b = some o := fun b o q => (gk b (Nat.ne_of_lt (Nat.lt_succ_of_lt (Heap.lt_size q)))).trans (old0 b o q)
  have ob : ObjOk X.prog X.w (upd H1 dx (.xd (fs.zip vs).reverse)) G' dx (.xd (fs.zip vs).reverse) :=
    ⟨_, hns.at (fun o q => (gk dx dne).trans q), rel⟩
  have J : Inv X pins σ (upd H1 dx (.xd (fs.zip vs).reverse)) ⟨G', g, dr, tk', os⟩ := I1.laid (t' := tk') old dn' ob
  refine ⟨hp.objs.size + 1, _, _, ⟨G', g, dr, tk', os⟩, _, .ref C, some dx, rfl, J, fun b o q => ?_, ge, hx, ⟨rfl, rfl, fun vs e => by cases e; rfl⟩, rfl, rfl, ?_, rfl, I1.bare, raises_own T.exC T.tyC, q1 dx (I1.hok.fresh dn')⟩
  · by_cases hb : b = hp.objs.size + 1
    · have q' : G'.get? b = some o := q
      rw [hb, ge] at q'; cases q'
    · exact (gk b hb).symm.trans q
  · rw [upd_ne (Ne.symm dne)]
    exact I1.hok.fresh (Nat.le_succ _)
end
/-- what is told of such a class: its facts, its text -/
def ExcOk (prog : Program) (K : Frag) (C fI : Addr) (qual : Str) (params : Arguments) (body : List Stmt) (scope : Scope) (fs : List Str) : Prop :=
  ExcT prog K C fI qual params body scope fs ∧ ∃ (e : PySem.Expr) (p0 p1 p2 p3 p4 : Pos) (sts : List Stmt) (n : Nat), body = (.Expr (.Call (.Attribute (.Call (.Name "super" p0) [] [] p1) "__init__" p2) [e] [] p3) p4 :: sts) ∧ ExcS prog qual params scope fs e p0 p1 p2 p3 p4 sts n
theorem pmk_ok {X : Cx} {C fI : Addr} {qual : Str} {params : Arguments} {body : List Stmt} {scope : Scope} {fs : List Str} {x : Str} {a : Expr} {es : List Expr} {ta : TA} {p pos : Pos} {k : Nat} (T : ExcOk X.prog X.K C fI qual params body scope fs) (hr : Room k X.A) (ha : PA X (a :: es) ta) (gC : X.mg x = some (.ref C)) (h1 : X.mg "str" = none) (h2 : X.mg "super" = none) (hg : Gl X x) (hdb : (x == ("__debug__" : Str)) = false := by decide)
    (he : starEach (a :: es) X.env = (false, eval a X.env) :: starEach es X.env := by rfl) (hpl : (backTo pos (starEach es X.env)).any (·.1) = false := by rfl) :
    L2N.PMk X (.Call (.Name x p) (a :: es) [] pos) (tMkE C fs ta) := by
  obtain ⟨T, e, p0, p1, p2, p3, p4, sts, n, rfl, S⟩ := T
  exact pmk_exc T S hr ha gC h1 h2 hg hdb he hpl
end XM
namespace XH
open PySem PySem.Spec PyProof.Rows L2 He
/-! ## a head's hook that also sees the exceptions' own __init__ (a closure on __class__) and the class statics -/
def asY (g : Addr → Option Obj) : Nat → List Addr
  | 0 => [mainGlobals, cStatics]
  | n + 1 => growD g (asY g n)
structure IniD where
  at_ : Defn
  qual : Str
  params : Arguments
  body : List Stmt
  scope : Scope
abbrev FnI : Type := Option (Str × Str × Arguments × FuncBody × Scope × Addr × List Str × Value × Value × Addr)
def fnI (K : PySem.W.Frag) (p : Defn) : FnI := match K.lookup (fAd K p) with
  | some ⟨_, _, .func fd, _⟩ => some (fd.name, fd.qualname, fd.params, fd.body, fd.scope, fd.globals, fd.closure.map (·.1), fd.defaults, fd.kwdefaults, fd.builtins)
  | _ => none
def IniD.val (d : IniD) : FnI := some ("__init__", d.qual, d.params, .stmts d.body, d.scope, mainGlobals, ["__class__"], .none, .none, builtinsNs)
abbrev AlY : Type := AlT × Bool × List FnI
def obsY (n : Nat) (fa : List Fa) (fn : List DefD) (ts : List Tab) (fi : List IniD) (ex : PySem.W.Frag → Bool) (g : Addr → Option Obj) : AlY := (obsT fa fn ts (frT g (asY g n)), ex (frT g (asY g n)), fi.map fun d => fnI (frT g (asY g n)) d.at_)
def valY (fn : List DefD) (ts : List Tab) (fi : List IniD) (w : World) : AlY := (valT fn ts w, true, fi.map IniD.val)
structure SaysY (fa : List Fa) (fn : List DefD) (ts : List Tab) (fi : List IniD) (ex : PySem.W.Frag → Bool) (w : World) (K : PySem.W.Frag) : Prop where
  t : SaysT fa fn ts w K
  more : ex K = true
  ini : (fi.map fun d => fnI K d.at_) = fi.map IniD.val
theorem saysY_of {n : Nat} {fa : List Fa} {fn : List DefD} {ts : List Tab} {fi : List IniD} {ex : PySem.W.Frag → Bool} {w : World} {h : Heap} (e : obsY n fa fn ts fi ex h.get? = valY fn ts fi w) : SaysY fa fn ts fi ex w (frT h.get? (asY h.get? n)) :=
  ⟨congrArg (fun z : AlY => z.1) e, congrArg (fun z : AlY => z.2.1) e, congrArg (fun z : AlY => z.2.2) e⟩
def hookY (n : Nat) (fa : List Fa) (fn : List DefD) (ts : List Tab) (fi : List IniD) (ex : PySem.W.Frag → Bool) : PySem.W.Hook where
  α := AlY
  obs := fun s => obsY n fa fn ts fi ex s.heap.get?
  val := fun w => valY fn ts fi w
  says := fun w h => ∃ K : PySem.W.Frag, K.In h ∧ SaysY fa fn ts fi ex w K
  of := fun _ _ e => ⟨_, frT_in, saysY_of e⟩
  keeps := fun _ _ _ ⟨K, hK, c⟩ k => ⟨K, PySem.W.Frag.In.keeps hK k, c⟩
theorem obsY_eq {n : Nat} {fa : List Fa} {fn : List DefD} {ts : List Tab} {fi : List IniD} {ex : PySem.W.Frag → Bool} {g : Addr → Option Obj} {s : Shared} (h : ∀ a, g a = s.heap.get? a) : obsY n fa fn ts fi ex g = (hookY n fa fn ts fi ex).obs s := by
  have e : g = s.heap.get? := funext h
  rw [e] <;> rfl
theorem SaysY.ini_ {fa : List Fa} {fn : List DefD} {ts : List Tab} {fi : List IniD} {ex : PySem.W.Frag → Bool} {w : World} {K : PySem.W.Frag} (c : SaysY fa fn ts fi ex w K) (i : Nat) {d : IniD} (h : fi[i]? = some d := by rfl) : fnI K d.at_ = d.val := by
  have e2 : (fi.map fun d => fnI K d.at_)[i]? = (fi.map IniD.val)[i]? := by rw [c.ini]
  rw [List.getElem?_map, List.getElem?_map, h] at e2
  exact Option.some.inj e2
/-! ### the exception classes' facts as Bools -/
def clsB (K : PySem.W.Frag) (C : Addr) : Bool := match K.lookup C with
  | some ⟨.type "type", _, .cls cd, sl⟩ => (match cd.mro, sl.toList with
    | .ref C' :: bm, [_, _, _, _, some (.builtin n), _] => C' == C && (n == "ValueError.__new__" && (!cd.hasDel && (cd.hasDict && PySem.HandSPX.refsVE bm)))
    | _, _ => false)
  | _ => false
theorem clsB_ok {K : PySem.W.Frag} {C : Addr} (q : clsB K C = true) : ∃ nm qn N bs bm sn sub ab col dd k0 k1 k2 k3 k5, K.lookup C = some (PySem.excClassObj nm qn C N bs bm true sn sub ab col dd k0 k1 k2 k3 k5 "ValueError.__new__") ∧ PySem.HandSPX.refsVE bm = true := by
  unfold clsB at q
  split at q
  · rename_i dd cd sl ho
    split at q
    · rename_i C' bm k0 k1 k2 k3 n k5 hm hs
      simp only [Bool.and_eq_true, beq_iff_eq, Bool.not_eq_true'] at q
      obtain ⟨rfl, rfl, hdel, hd', ht⟩ := q
      obtain ⟨nm, bs, mro, ns, qn, hd, sn, sub, ab, col, del⟩ := cd
      dsimp only at hm hdel hd'
      subst hm hdel hd'
      have hsl : sl = #[k0, k1, k2, k3, some (.builtin "ValueError.__new__"), k5] := by
        obtain ⟨l⟩ := sl
        simp only at hs
        rw [hs]
      subst hsl
      exact ⟨nm, qn, ns, bs, bm, sn, sub, ab, col, dd, k0, k1, k2, k3, k5, ho, ht⟩
    · cases q
  · cases q
def fileV (file0 : Str) (vs : Array Value) : Bool := match (vs[2]? : Option Value) with
  | some (.str file _) => file0 == file
  | _ => false
def fileB (file0 : Str) (K : PySem.W.Frag) (cda : Addr) : Bool := match K.lookup cda with
  | some ⟨_, _, .fields vs, _⟩ => fileV file0 vs
  | _ => false
def cellB (K : PySem.W.Frag) (cc C : Addr) : Bool := match K.lookup cc with
  | some ⟨_, _, .cell (some (.ref c)), _⟩ => c == C
  | _ => false
theorem fileB_ok {file0 : Str} {K : PySem.W.Frag} {cda : Addr} (h : fileB file0 K cda = true) : ∃ oa vs file tf, K.lookup cda = some oa ∧ oa.data = .fields vs ∧ vs[2]? = some (.str file tf) ∧ (file0 == file) = true := by
  unfold fileB at h
  cases q : K.lookup cda with
  | none =>
    rw [q] at h
    cases h
  | some o1 =>
    obtain ⟨oc1, od1, dt1, osl1⟩ := o1
    rw [q] at h
    cases dt1 with
    | fields vs =>
      have h2 : fileV file0 vs = true := h
      unfold fileV at h2
      cases q2 : vs[2]? with
      | none =>
        rw [q2] at h2
        cases h2
      | some u =>
        rw [q2] at h2
        cases u with
        | str file tf => exact ⟨_, vs, file, tf, rfl, rfl, q2, h2⟩
        | _ => cases h2
    | _ => cases h
theorem cellB_ok {K : PySem.W.Frag} {cc C : Addr} (h : cellB K cc C = true) : ∃ ob, K.lookup cc = some ob ∧ ob.data = .cell (some (.ref C)) := by
  unfold cellB at h
  cases q : K.lookup cc with
  | none =>
    rw [q] at h
    cases h
  | some o =>
    obtain ⟨oc, od, dt, osl⟩ := o
    rw [q] at h
    cases dt with
    | cell u =>
      cases u with
      | none => cases h
      | some v =>
        cases v with
        | ref c =>
          have z : (c == C) = true := h
          rw [← (eq_of_beq z : c = C)]
          exact ⟨_, rfl, rfl⟩
        | _ => cases h
    | _ => cases h
/-- the code of its __init__ is of the main file, the cell holds the class -/
def iniB (file0 : Str) (K : PySem.W.Frag) (C fI : Addr) (qual : Str) : Bool := match K.lookup fI with
  | some ⟨_, _, .func fd, _⟩ => (match fd.code, fd.closure with
    | .ref cda, [(_, cc)] => PySem.W.codeIn K (.ref cda) qual && (fileB file0 K cda && cellB K cc C)
    | _, _ => false)
  | _ => false
/-- class x of the program, its attributes fs -/
def excB (file0 : Str) (x qual : Str) (fs : List Str) (K : PySem.W.Frag) : Bool :=
  clsB K (ga K x) && (decide (PySem.W.ks_superIn K (ga K x) (ga K x) "__init__" = some (some (.builtin "ValueError.__init__"))) && (decide (PySem.W.subIn K (.ref (ga K x)) (.type "ValueError") = some true) && (decide (PySem.W.mroIn K (ga K x) (.ref (ga K x)) = some true) &&
    (decide (PySem.W.findIn K (.ref (ga K x)) "__setattr__" = some (some (.builtin "object.__setattr__"))) && ((fs.all fun f => decide (PySem.W.findIn K (.ref (ga K x)) f = some none)) && (decide (PySem.W.findIn K (.ref (ga K x)) "__init__" = some (some (.ref (ma K (ga K x) "__init__")))) &&
    (decide (PySem.W.typeIn K (.ref (ma K (ga K x) "__init__")) = some (.type "function")) && (PySem.W.keepIn K (.ref (ga K x)) && (decide (PySem.W.subIn K (.ref (ga K x)) (.type "BaseException") = some true) && (decide (PySem.W.typeIn K (.ref (ga K x)) = some (.type "type")) &&
    (decide (PySem.W.nsIn K cStatics "thirdparty.any" = some none) && iniB file0 K (ga K x) (ma K (ga K x) "__init__") qual)))))))))))
theorem excT_of {prog : Program} {K : PySem.W.Frag} {x qual : Str} {fs : List Str} {params : Arguments} {body : List Stmt} {scope : Scope} (h : excB prog.main.file x qual fs K = true) (e : fnI K (x, some "__init__") = IniD.val ⟨(x, some "__init__"), qual, params, body, scope⟩) :
    XM.ExcT prog K (ga K x) (ma K (ga K x) "__init__") qual params body scope fs := by
  obtain ⟨h1, h⟩ := ba h
  obtain ⟨h2, h⟩ := ba h
  obtain ⟨h3, h⟩ := ba h
  obtain ⟨h4, h⟩ := ba h
  obtain ⟨h5, h⟩ := ba h
  obtain ⟨h6, h⟩ := ba h
  obtain ⟨h7, h⟩ := ba h
  obtain ⟨h8, h⟩ := ba h
  obtain ⟨h9, h⟩ := ba h
  obtain ⟨h10, h⟩ := ba h
  obtain ⟨h11, h⟩ := ba h
  obtain ⟨h12, h13⟩ := ba h
  refine { cls := clsB_ok h1, sup := of_decide_eq_true h2, sVE := of_decide_eq_true h3, sCC := of_decide_eq_true h4, sa := of_decide_eq_true h5, noN := fun f hf => of_decide_eq_true (List.all_eq_true.mp h6 f hf), iC := of_decide_eq_true h7, tI := of_decide_eq_true h8, kC := h9, exC := of_decide_eq_true h10, tyC := of_decide_eq_true h11, tp := of_decide_eq_true h12, fn := ?_ }
  have e0 : fnI K (x, some "__init__") = (match K.lookup (ma K (ga K x) "__init__") with
    | some ⟨_, _, .func fd, _⟩ => some (fd.name, fd.qualname, fd.params, fd.body, fd.scope, fd.globals, fd.closure.map (·.1), fd.defaults, fd.kwdefaults, fd.builtins)
    | _ => none : FnI) := rfl
  rw [e0] at e
  unfold iniB at h13
  cases q : K.lookup (ma K (ga K x) "__init__") with
  | none =>
    rw [q] at e
    cases e
  | some o =>
    obtain ⟨oc, od, dt, osl⟩ := o
    rw [q] at e h13
    cases dt with
    | func fd =>
      obtain ⟨n1, n2, n3, n4, n5, n6, n7, n8, n9, n10, n11, n12, n13, n14, n15⟩ := fd
      have e2 : (some (n1, n2, n3, n4, n5, n6, n7.map (·.1), n8, n9, n15) : FnI) = (some ("__init__", qual, params, .stmts body, scope, mainGlobals, ["__class__"], .none, .none, builtinsNs) : FnI) := e
      simp only [Option.some.injEq, Prod.mk.injEq] at e2
      obtain ⟨i1, i2, i3, i4, i5, i6, i7, i8, i9, i10⟩ := e2
      subst i1 i2 i3 i4 i5 i6 i8 i9 i10
      cases n13 with
      | ref cda =>
        cases n7 with
        | nil => cases i7
        | cons p r =>
          obtain ⟨nm, cc⟩ := p
          have hr : r = [] := by
            cases r with
            | nil => rfl
            | cons y ys => simp at i7
          subst hr
          have hnm : nm = "__class__" := by simpa using i7
          subst hnm
          obtain ⟨j1, j2⟩ := ba (show (PySem.W.codeIn K (.ref cda) n2 && (fileB prog.main.file K cda && cellB K cc (ga K x))) = true from h13)
          obtain ⟨j3, j4⟩ := ba j2
          obtain ⟨oa, vs, file, tf, q1, q2, q3, q4⟩ := fileB_ok j3
          obtain ⟨ob, q5, q6⟩ := cellB_ok j4
          exact ⟨oc, od, n10, n11, n12, cda, cc, n14, osl, oa, vs, file, tf, ob, rfl, j1, q1, q2, q3, q4, q5, q6⟩
      | _ => cases n7 <;> cases h13
    | _ => cases e
def tupOB (K : PySem.W.Frag) (a : Addr) : Bool := match K.lookup a with
  | some ⟨.type c, none, _, _⟩ => decide (c = "tuple")
  | _ => false
theorem tupOB_ok {K : PySem.W.Frag} {a : Addr} (h : tupOB K a = true) : ∃ o, K.lookup a = some o ∧ o.cls = .type "tuple" ∧ o.dict = none := by
  unfold tupOB at h
  cases q : K.lookup a with
  | none =>
    rw [q] at h
    cases h
  | some o =>
    obtain ⟨oc, od, dt, osl⟩ := o
    rw [q] at h
    cases oc with
    | type c =>
      cases od with
      | none =>
        have e : c = "tuple" := of_decide_eq_true h
        exact ⟨_, rfl, by rw [e], rfl⟩
      | some d => cases h
    | _ => cases od <;> cases h
def excCB (K : PySem.W.Frag) (C : Addr) : Bool := decide (PySem.W.findIn K (.ref C) "__getattribute__" = some (some (.builtin "BaseException.__getattribute__"))) && (decide (PySem.W.findIn K (.ref C) "__getattr__" = some none) && (decide (PySem.W.subIn K (.ref C) (.type "BaseException") = some true) && (PySem.W.hasDictIn K C && (decide (PySem.W.findIn K (.ref C) "__class__" = some (some (.builtin "object.__class__"))) &&
  (decide (PySem.W.specialIn K (.builtin "object.__class__") "__get__" = some (some (.builtin "getset_descriptor.__get__"))) && (decide (PySem.W.takesIn K (.builtin "object.__class__") = some true) && decide (PySem.W.mroIn K C (.type "object") = some true)))))))
theorem excCB_ok {K : PySem.W.Frag} {C : Addr} (h : excCB K C = true) : ExcC K C := by
  obtain ⟨h1, h⟩ := ba h
  obtain ⟨h2, h⟩ := ba h
  obtain ⟨h3, h⟩ := ba h
  obtain ⟨h4, h⟩ := ba h
  obtain ⟨h5, h⟩ := ba h
  obtain ⟨h6, h⟩ := ba h
  obtain ⟨h7, h8⟩ := ba h
  exact ⟨of_decide_eq_true h1, of_decide_eq_true h2, of_decide_eq_true h3, h4, of_decide_eq_true h5, of_decide_eq_true h6, of_decide_eq_true h7, of_decide_eq_true h8⟩
end XH
namespace M
open PySem PySem.Spec PyProof.Rows L2
/-! ## defs that raise, defs called in an except suite -/
structure CalX (P : Program) (w : World) (K : PySem.W.Frag) (mg : Str → Option Value) (base : Heap) (k : Nat) (x : Str) (sp : Sp) : Prop where
  ex : ∃ (f : Addr) (fd : FuncData) (ps : List Str), FnOk P w K mg base (L2N.CX P w) k f fd ps sp ∧ mg x = some (.ref f) ∧ PySem.W.keepIn K (.ref f) = true ∧ Binds K fd ps []
structure CalH (P : Program) (w : World) (K : PySem.W.Frag) (mg : Str → Option Value) (base : Heap) (k : Nat) (x : Str) (sp : Sp) : Prop where
  ex : ∃ (f : Addr) (fd : FuncData) (ps : List Str), L2H.FnH P w K mg base CX0 k f fd ps sp ∧ mg x = some (.ref f) ∧ PySem.W.keepIn K (.ref f) = true ∧ Binds K fd ps []
theorem FnH.mono {P : Program} {w : World} {K : PySem.W.Frag} {mg : Str → Option Value} {base : Heap} {CX : CXT} {j k : Nat} {f : Addr} {fd : FuncData} {ps : List Str} {sp : Sp} (F : L2H.FnH P w K mg base CX j f fd ps sp) (h : j ≤ k) : L2H.FnH P w K mg base CX k f fd ps sp :=
  ⟨F.len, fun A outer s H args us vs Q E p hr => F.run A outer s H args us vs Q E p (hr.mono h)⟩
section
variable {X : Cx} {k j : Nat} {x : Str} {sp : Sp} {p pos : Pos} {e : Expr} {es : List Expr} {t : TA}
theorem pe_cX {W : WX} (c : CalX X.prog X.w X.K X.mg X.base k x sp) (hr : Room j X.A) (hk : k ≤ j) (hg : Gl X x) (tk : L2N.Takes X W) (ha : PA X (e :: es) t)
    (hdb : (x == ("__debug__" : Str)) = false := by decide) (he : starEach (e :: es) X.env = (false, eval e X.env) :: starEach es X.env := by rfl) (hpl : (backTo pos (starEach es X.env)).any (·.1) = false := by rfl) :
    PE X (.Call (.Name x p) (e :: es) [] pos) (tCallS sp (WE W) t) := by
  obtain ⟨f, fd, ps, F, hm, kp, b⟩ := c.ex
  exact pe_callS F (hr.mono hk) hg hm kp b (fun σ => L2N.passAt tk σ) ha hdb he hpl
theorem tCall_S {sp : Sp} {t : TA} : tCallS sp (fun _ => C8.E0) t = tCall sp [] C8.E0 t := by
  funext σ H Q
  unfold tCallS tCall
  congr 1
  funext vs H1
  rw [List.append_nil]
theorem pe_cH (c : CalH X.prog X.w X.K X.mg X.base k x sp) (hc : L2H.HotC X) (hr : L2H.RoomH j X.A) (hk : k ≤ j) (hg : Gl X x) (ha : PA X (e :: es) t)
    (hdb : (x == ("__debug__" : Str)) = false := by decide) (he : starEach (e :: es) X.env = (false, eval e X.env) :: starEach es X.env := by rfl) (hpl : (backTo pos (starEach es X.env)).any (·.1) = false := by rfl) :
    PE X (.Call (.Name x p) (e :: es) [] pos) (tCall sp [] C8.E0 t) := by
  obtain ⟨f, fd, ps, F, hm, kp, b⟩ := c.ex
  rw [← tCall_S]
  exact L2H.pe_callH (FnH.mono F hk) hr hc hg hm kp b (fun σ _ _ _ _ _ _ h => h.elim) ha hdb he hpl
theorem pe_cH0 (c : CalH X.prog X.w X.K X.mg X.base k x sp) (hc : L2H.HotC X) (hr : L2H.RoomH j X.A) (hk : k ≤ j) (hg : Gl X x)
    (hdb : (x == ("__debug__" : Str)) = false := by decide) : PE X (.Call (.Name x p) [] [] pos) (tCall sp [] C8.E0 tNil) := by
  obtain ⟨f, fd, ps, F, hm, kp, b⟩ := c.ex
  rw [← tCall_S]
  refine ⟨fun pins s σ H Q I h => ?_⟩
  refine wpAny_Call_Name_kw (ld_glob I hg hm ?_ hdb)
  exact PySem.W.callWith_K0 I.kIn kp (L2H.run_fnH (E := fun _ => C8.E0) (us := []) (FnH.mono F hk) hr hc b (fun _ _ _ _ _ _ h => h.elim) I .nil h)
theorem pe_c0 (c : C8.Cal X.prog X.w X.K X.mg X.base k x sp []) (hr : Room j X.A) (hk : k ≤ j) (hg : Gl X x)
    (hdb : (x == ("__debug__" : Str)) = false := by decide) : PE X (.Call (.Name x p) [] [] pos) (tCall sp [] C8.E0 tNil) := by
  obtain ⟨f, fd, ps, ds, F, hm, kp, b, d⟩ := c.ex
  exact pe_call0 F (hr.mono hk) hg hm kp b d C8.pass0 hdb
end
section
variable {P : Program} {w : World} {K : PySem.W.Frag} {mg : Str → Option Value} {base : Heap}
/-- a def of the module that may raise -/
theorem cal_mkX {x : Str} {st : Stmt} {f : Addr} {N ps : List Str} {k : Nat} {sp : Sp} (F : ∃ fd, FunD K x x (defArgs st) (defBody st) (defScope st) [] [] f fd) (hm : mg x = some (.ref f)) (S : FnScope N ps (defScope st))
    (hb : ∀ (kV doc pm : Value) (an : Option Addr) (cdv ct : Value) (us : List Value), us.length = ps.length → bindArgs (PySem.W.fnOf x x (defArgs st) (defBody st) (defScope st) .none kV doc pm an cdv ct) ⟨us, []⟩ = pure (ps.zip us))
    (len : ∀ vs H Q E, sp vs H Q E → vs.length = ps.length)
    (hbody : ∀ (cdv : Value) (A : Around) (outer : List Env) (s : Shared) (H : Hp) (vs : List V) (Q : VK) (E : XK), Room k (A.deeper (envOfC x (defScope st) s.heap.objs.size f cdv)) → sp vs H Q E →
      ∃ t, PSs (cxOf (L2N.CX P w) P w K mg base N x (defScope st) f cdv A outer s H E) (defBody st) t ∧ t ⟨fun _ H' => Q .non H', Q, fun _ _ => False, fun _ _ => False⟩ (start N vs) H) : CalX P w K mg base (k + 1) x sp := by
  obtain ⟨fd, F⟩ := F
  exact ⟨f, fd, ps, F.ok S len fun cdv A outer s H vs Q E hr h => hbody cdv A outer s H vs Q E hr h, hm, F.kp, F.bindsN hb⟩
/-- a def that lets nothing out, called while an exception is handled -/
theorem calH_mk {x : Str} {st : Stmt} {f : Addr} {N ps : List Str} {k : Nat} {sp : Sp} (F : ∃ fd, FunD K x x (defArgs st) (defBody st) (defScope st) [] [] f fd) (hm : mg x = some (.ref f)) (S : FnScope N ps (defScope st))
    (hb : ∀ (kV doc pm : Value) (an : Option Addr) (cdv ct : Value) (us : List Value), us.length = ps.length → bindArgs (PySem.W.fnOf x x (defArgs st) (defBody st) (defScope st) .none kV doc pm an cdv ct) ⟨us, []⟩ = pure (ps.zip us))
    (len : ∀ vs H Q E, sp vs H Q E → vs.length = ps.length)
    (hbody : ∀ (cdv : Value) (A : Around) (outer : List Env) (s : Shared) (H : Hp) (vs : List V) (Q : VK) (E : XK) (p : Addr × Obj), L2H.HotC (L2H.cxH CX0 P w K mg base N x (defScope st) f cdv A outer s H E p).nox → L2H.RoomH k (A.deeper (envOfC x (defScope st) s.heap.objs.size f cdv)) → sp vs H Q E →
      ∃ t, PSs (L2H.cxH CX0 P w K mg base N x (defScope st) f cdv A outer s H E p).nox (defBody st) t ∧ t ⟨fun _ H' => Q .non H', Q, fun _ _ => False, fun _ _ => False⟩ (start N vs) H) : CalH P w K mg base (k + 1) x sp := by
  obtain ⟨fd, F⟩ := F
  refine ⟨f, fd, ps, ?_, hm, F.kp, F.bindsN hb⟩
  obtain ⟨oc, od, dV, kV, doc, pm, an, cdv, ct, osl, rfl, lk, hcd, _, _⟩ := F.ex
  exact L2H.fn_ofH lk hcd S len fun A outer s H vs Q E p hot hr h => by
    obtain ⟨t, h1, h2⟩ := hbody _ A outer s H vs Q E p ⟨p, hot, List.mem_cons_self ..⟩ hr h
    exact ⟨t, h1.nox, h2⟩
end
/-! ### raise, try -/
theorem takesN0 {X : Cx} : L2N.Takes X (fun _ _ _ _ => False) := fun _ _ x => by
  obtain ⟨_, _, _, _, _, _, _, _, _, _, _, _, _, _, _, _, z⟩ := x
  exact z.elim
/-- in the suite of an except clause an exception is handled, whose context is None -/
theorem hot_suite {X : Cx} {a : Addr} {oe : Obj} {cls : Value} {d : Option Addr} {pn : List (Addr × Obj)} (hz : L2N.Zn cls d oe) (hf : ∃ vs, oe.data = .fields vs) : L2H.HotC (X.suite a ((a, oe) :: pn)) := by
  obtain ⟨vs, hv⟩ := hf
  exact ⟨(a, oe), ⟨rfl, vs, hv, hz.2.2 vs hv⟩, List.mem_cons_self ..⟩
theorem room_suite {X : Cx} {k : Nat} {a : Addr} {pn : List (Addr × Obj)} (hr : Room k X.A) : L2H.RoomH k (X.suite a pn).A := L2H.roomH_mark hr _
def tRz (W : WX) (t : L2.St → Hp → XK → Prop) : TS := fun _ σ H => t σ H fun cls d H' => W cls d σ H'
theorem ps_rz {X : Cx} {W : WX} {e : Expr} {t : L2.St → Hp → XK → Prop} {pos : Pos} (hc : X.calm = true) (tk : L2N.Takes X W) (he : L2N.PMk X e t) : PS X (.Raise (some e) none pos) (tRz W t) := L2N.ps_raise hc tk he
theorem x_rz {W : WX} {t : L2.St → Hp → XK → Prop} {D : Ends} {σ : L2.St} {H : Hp} (h : t σ H fun cls d H' => W cls d σ H') : tRz W t D σ H := h
theorem x_mkE {C : Addr} {fs : List Str} {ta : TA} {σ : L2.St} {H : Hp} {Q : XK} (h : ta σ H fun vs H1 => vs.length = fs.length ∧ (∀ v ∈ vs, XM.TxtV v) ∧ ∀ d, H1 d = none → Q (.ref C) (some d) (upd H1 d (.xd (fs.zip vs).reverse))) : XM.tMkE C fs ta σ H Q := h
def tTryAs (K : PySem.W.Frag) (c : Value) (i : Nat) (tb : WX → TS) (ts : Addr → Value → Option Addr → TS) : TS := fun D σ H => tb (wAs K c i ts (fun _ _ _ _ => False) D) D σ H
theorem x_tryAs {K : PySem.W.Frag} {c : Value} {i : Nat} {tb : WX → TS} {ts : Addr → Value → Option Addr → TS} {D : Ends} {σ : L2.St} {H : Hp} (h : tb (wAs K c i ts (fun _ _ _ _ => False) D) D σ H) : tTryAs K c i tb ts D σ H := h
theorem x_was {K : PySem.W.Frag} {c cls : Value} {i : Nat} {ts : Addr → Value → Option Addr → TS} {D : Ends} {σ : L2.St} {H : Hp} {d : Option Addr} {Wo : WX} (e : PySem.W.exmOne K cls c = some true)
    (h : ∀ a, H a = none → ts a cls d { nx := fun σ' H' => D.nx (σ'.set i none) H', rt := D.rt, bk := fun σ' H' => D.bk (σ'.set i none) H', ct := fun σ' H' => D.ct (σ'.set i none) H' } (σ.set i (some (.ref a))) H) : wAs K c i ts Wo D cls d σ H :=
  ⟨true, e, fun _ => h, fun q => Bool.noConfusion q⟩
section
variable {X : Cx} {x n : Str} {c : Value} {i : Nat} {body suite : List Stmt} {b₀ : Stmt} {np pos pos' : Pos} {tb : WX → TS} {ts : Addr → Value → Option Addr → TS}
/-- nothing but what the clause takes leaves the body -/
theorem ps_tryAs (hs : X.stack = X.env :: X.outer) (hf : X.env.frame = some X.env.locals) (hN : X.N.Nodup) (hi : X.N[i]? = some n) (hln : X.env.kindOf n = some .local) (hg : Gl X x) (hd : (x == ("__debug__" : Str)) = false) (hm : X.mg x = some c)
    (hb : ∀ (W : WX) (pn : List (Addr × Obj)) (xe : Value → Shared → Prop), L2N.Takes (X.tr pn xe) W → PassesOwn (model X.prog X.w) X.A X.env xe → PSs (X.tr pn xe) body (tb W))
    (hsu : ∀ (a : Addr) (oe : Obj) (cls : Value) (d : Option Addr) (pn : List (Addr × Obj)), L2N.Zn cls d oe → (∃ vs, oe.data = .fields vs) → PSs (X.suite a ((a, oe) :: pn)) (b₀ :: suite) (ts a cls d)) :
    PS X (.Try body [.ExceptHandler (some (.Name x np)) (some n) (b₀ :: suite) pos'] [] [] pos) (tTryAs X.K c i tb ts) := L2N.ps_try_as hs hf hN hi hln ⟨hg, hd, .inl hm⟩ takesN0 hb hsu
end
/-! ### isinstance(e, T), e held by the suite, with its own dict -/
theorem call_isX {X : Cx} {a D : Addr} {oe : Obj} {cls : Value} {dd : Option Addr} {pn : List (Addr × Obj)} (C : ExcC X.K D) (hz : Zc cls dd oe) (hf : ∃ vs, oe.data = .fields vs) :
    CallR (X.suite a ((a, oe) :: pn)) (.builtin "isinstance") (fun xs H Q => ∃ (c : V) (cv : Value) (b : Bool) (d : Addr) (fs : List (Str × V)), xs = [.ref a, c] ∧ cls = .ref D ∧ dd = some d ∧ H d = some (.xd fs) ∧ (∀ u, RelV c u → u = cv) ∧ PySem.W.kitOne X.K (.ref D) cv = some b ∧ Q (.bl b) H) := by
  intro pins s σ H xs us Q I r h
  obtain ⟨c, cv, b, d, fs, rfl, rfl, rfl, hd, hcv, e, q⟩ := h
  cases r with
  | cons rx rr =>
    cases rr with
    | cons rt rr =>
      cases rr
      cases rx
      have ec := hcv _ rt
      subst ec
      obtain ⟨hget, _⟩ := I.pin (a, oe) (List.mem_append.mpr (.inl List.mem_cons_self))
      obtain ⟨vs, hv⟩ := hf
      have hx : ObjOk X.prog X.w H s.heap d (.xd fs) := I.hok d _ hd
      obtain ⟨mA, hns, hr⟩ := hx
      obtain ⟨od, ho, hl⟩ := lookIn_ns hns
      have J : PySem.W.InstAt s.heap a oe D (some od) := ⟨hget, hz.1, by unfold PySem.W.notCls; rw [hv] <;> rfl, by rw [hz.2]; exact ho⟩
      have hcl : (PySem.W.clsIn X.K D).isSome = true := by
        obtain ⟨cd, hc, _⟩ := PySem.W.any_some C.hd
        rw [hc]; rfl
      exact PySem.W.kia_one (PySem.W.kitx_exc hcl C.hg C.hk C.hs C.ha C.hn C.ht C.hm) I.kIn J e (fun z => nomatch z) fun tk => ⟨.bl b, H, I.kept (t' := tk) fun _ _ z => z, rfl, q⟩
end M
namespace M
open PySem PySem.Spec PyProof.Rows L2
/-! ## texts in lists and tuples; split; equality of tuples and lists -/
def rTIdx (K : PySem.W.Frag) : V → List V → Hp → VK → Prop := fun x xs H Q => ∃ p, ∃ ys : List Str, ∃ z j, x = .ref p ∧ xs = [.str z] ∧ SqT K H p (ys.map V.str) ∧ ys[j]? = some z ∧ (∀ m, m < j → ys[m]? ≠ some z) ∧ Q (.int (j : Nat)) H
theorem mt_tindex {X : Cx} : MtR X "tuple.index" (rTIdx X.K) := mt_tup_index
def rSplitZ : V → List V → Hp → VK → Prop := fun x xs H Q => ∃ a b, x = .str a ∧ xs = [.str b] ∧ (b.length == 0) = false ∧ a.length + 2 ≤ sizeLine ∧ rNewStrs (Txt.split a b) H Q
theorem pe_splitZ {X : Cx} {o e : Expr} {to te : TE} {apos pos : Pos} (ho : PE X o to) (he : PE X e te) (hs : starEach [e] X.env = [(false, eval e X.env)] := by rfl) (hbase : attributeBase o "split" X.env (eval o X.env) = eval o X.env := by rfl) (hline : (apos.endLine == pos.line) = true := by rfl) :
    PE X (.Call (.Attribute o "split" apos) [e] [] pos) (tM1 rSplitZ to te) := pe_split ho he hs hbase hline
theorem flat_strsV (l : List Str) : (l.map V.str).all flatV = true := List.all_eq_true.mpr fun x hx => by
  obtain ⟨z, _, rfl⟩ := List.mem_map.mp hx
  rfl
theorem first_idx {l : List Str} {z : Str} (hz : z ∈ l) : l[l.idxOf z]? = some z ∧ ∀ m, m < l.idxOf z → l[m]? ≠ some z := by
  have hl : l.idxOf z < l.length := List.idxOf_lt_length_of_mem hz
  refine ⟨by rw [List.getElem?_eq_getElem hl, List.getElem_idxOf hl], fun m hm q => ?_⟩
  have hml : m < l.length := by omega
  have e : l[m] = z := by rw [List.getElem?_eq_getElem hml] at q; exact Option.some.inj q
  have := List.not_of_lt_findIdx (p := (· == z)) (xs := l) (i := m) hm
  simp [e] at this
theorem inV_strs {z : Str} {l : List Str} : inV (.str z) (l.map V.str) = decide (z ∈ l) := by
  unfold inV
  rw [Bool.eq_iff_iff, decide_eq_true_iff, List.any_eq_true]
  constructor
  · rintro ⟨x, hx, e⟩
    obtain ⟨y, hy, rfl⟩ := List.mem_map.mp hx
    have e2 : y = z := by simpa [eqV] using e
    rw [← e2]; exact hy
  · intro hz
    exact ⟨.str z, List.mem_map.mpr ⟨z, hz, rfl⟩, by simp [eqV]⟩
section
variable {σ : St} {H : Hp} {Q : VK} {x : V} {to te : TE} {t : TA} {K : PySem.W.Frag} {p : Addr} {xs : List V} {l : List Str} {z : Str}
theorem x_inL (h : SqL K H p xs) (fx : flatV x = true) (fs : xs.all flatV = true) (k : Q (.bl (inV x xs)) H) : rIn K false x (.ref p) H Q := ⟨p, xs, rfl, .inl h, fx, fs, k⟩
theorem x_inT (h : SqT K H p xs) (fx : flatV x = true) (fs : xs.all flatV = true) (k : Q (.bl (inV x xs)) H) : rIn K false x (.ref p) H Q := ⟨p, xs, rfl, .inr h, fx, fs, k⟩
theorem x_notInL (h : SqL K H p xs) (fx : flatV x = true) (fs : xs.all flatV = true) (k : Q (.bl (!inV x xs)) H) : rIn K true x (.ref p) H Q := ⟨p, xs, rfl, .inl h, fx, fs, k⟩
theorem x_notInT (h : SqT K H p xs) (fx : flatV x = true) (fs : xs.all flatV = true) (k : Q (.bl (!inV x xs)) H) : rIn K true x (.ref p) H Q := ⟨p, xs, rfl, .inr h, fx, fs, k⟩
/-- a value of this type, then -/
def isTy (K : PySem.W.Frag) (T : String) (x : V) (H : Hp) (A : Prop) : Prop := tyV K T x H ∧ A
theorem x_bm {T : String} {r : V → List V → Hp → VK → Prop} (k : to σ H fun x H1 => isTy K T x H1 (t σ H1 fun xs H2 => r x xs H2 Q)) : tBM K T r to t σ H Q := k
theorem x_tyL {A : Prop} (h : SqL K H p xs) (k : A) : isTy K "list" (.ref p) H A := ⟨.inl ⟨rfl, xs, h⟩, k⟩
theorem x_tyK {A : Prop} (h : ∃ o, K.lookup p = some o ∧ o.cls = .type "tuple" ∧ o.dict = none) (k : A) : isTy K "tuple" (.ref p) H A := ⟨.inr (.inl ⟨rfl, h⟩), k⟩
theorem x_tidx (h : SqT K H p (l.map V.str)) (hz : z ∈ l) (k : Q (.int (l.idxOf z)) H) : rTIdx K (.ref p) [.str z] H Q := ⟨p, l, z, _, rfl, rfl, h, (first_idx hz).1, (first_idx hz).2, k⟩
theorem x_lidx (h : SqL K H p (l.map V.str)) (hz : z ∈ l) (k : Q (.int (l.idxOf z)) H) : rIndex K (.ref p) [.str z] H Q := by
  refine ⟨p, l.map V.str, .str z, l.idxOf z, .str z, rfl, rfl, h, rfl, flat_strsV l, ?_, ?_, fun m z' hm hz' => ?_, k⟩
  · rw [List.getElem?_map, (first_idx hz).1]; rfl
  · simp [eqV]
  · rw [List.getElem?_map] at hz'
    cases q : l[m]? with
    | none => rw [q] at hz'; cases hz'
    | some y =>
      rw [q] at hz'
      have e : V.str y = z' := Option.some.inj hz'
      subst e
      have ne : y ≠ z := fun e => (first_idx hz).2 m hm (by rw [q, e])
      simpa [eqV] using ne
def isTxt (x : V) (A : Prop) : Prop := (∃ a, x = .str a) ∧ A
theorem x_m1 {r : V → List V → Hp → VK → Prop} (k : to σ H fun x H1 => isTxt x (te σ H1 fun y H2 => r x [y] H2 Q)) : tM1 r to te σ H Q := k
theorem x_txt {A : Prop} (k : A) : isTxt (.str z) A := ⟨⟨z, rfl⟩, k⟩
theorem x_split {a b : Str} (hb : (b.length == 0) = false) (hl : a.length + 2 ≤ sizeLine) (k : ∀ p H2, H p = none → Same H H2 → H2 p = some (.lst ((Txt.split a b).map V.str)) → Q (.ref p) H2) : rSplitZ (.str a) [.str b] H Q :=
  ⟨a, b, rfl, rfl, hb, hl, fun p hp => k p _ hp (same_new hp) upd_same⟩
theorem x_addZ {a b : Str} (h : a.length + b.length ≤ sizeLine) (k : Q (.str (a ++ b)) H) : rAddZ (.str a) (.str b) H Q := ⟨a, b, rfl, rfl, h, k⟩
theorem x_tupL {ys : List V} (h : SqL K H p ys) (k : ∀ q H2, H q = none → Same H H2 → H2 q = some (.tup ys) → Q (.ref q) H2) : rTupQ K [.ref p] H Q := ⟨p, ys, rfl, .inl ⟨h, fun q hq => k q _ hq (same_new hq) upd_same⟩⟩
theorem x_tupT {ys : List V} (h : SqT K H p ys) (k : Q (.ref p) H) : rTupQ K [.ref p] H Q := ⟨p, ys, rfl, .inr ⟨h, k⟩⟩
theorem DpAll.strs : ∀ l : List Str, DpAll K H (l.map V.str) (l.map PyData.str)
  | [] => .nil
  | z :: l => .cons (.str z) (DpAll.strs l)
theorem DpAll.ints : ∀ l : List Int, DpAll K H (l.map V.int) (l.map PyData.int)
  | [] => .nil
  | z :: l => .cons (.int z) (DpAll.ints l)
theorem x_neD {x y : V} {d e : PyData} (h1 : Dp K H x d) (h2 : Dp K H y e) (s1 : SeqAt.shaped d = true) (s2 : SeqAt.shaped e = true) (k : Q (.bl (!PyData.eqv d e)) H) : rNeD K x y H Q := ⟨d, e, h1, h2, s1, s2, k⟩
theorem x_eqD {x y : V} {d e : PyData} (h1 : Dp K H x d) (h2 : Dp K H y e) (s1 : SeqAt.shaped d = true) (s2 : SeqAt.shaped e = true) (k : Q (.bl (PyData.eqv d e)) H) : rEqD K x y H Q := ⟨d, e, h1, h2, s1, s2, k⟩
theorem x_isiTT {ys : List V} (h : H p = some (.tup ys)) (k : Q (.bl true) H) : rIsi K [.ref p, .ty "tuple"] H Q := x_isi (.base (.tup h)) (by decide +kernel) k
end
/-- isinstance(e, c) where e is the exception that the suite holds -/
def rIsX (K : PySem.W.Frag) (D a : Addr) (cls : Value) (dd : Option Addr) : List V → Hp → VK → Prop := fun xs H Q => ∃ (c : V) (cv : Value) (b : Bool) (d : Addr) (fs : List (Str × V)), xs = [.ref a, c] ∧ cls = .ref D ∧ dd = some d ∧ H d = some (.xd fs) ∧ (∀ u, RelV c u → u = cv) ∧ PySem.W.kitOne K (.ref D) cv = some b ∧ Q (.bl b) H
theorem call_isXn {X : Cx} {a D : Addr} {oe : Obj} {cls : Value} {dd : Option Addr} {pn : List (Addr × Obj)} (C : ExcC X.K D) (hz : Zc cls dd oe) (hf : ∃ vs, oe.data = .fields vs) : CallR (X.suite a ((a, oe) :: pn)) (.builtin "isinstance") (rIsX X.K D a cls dd) := call_isX C hz hf
section
variable {σ : St} {H : Hp} {Q : VK} {K : PySem.W.Frag} {a D d : Addr} {fs : List (Str × V)} {te : TE}
theorem x_isXr {A : Addr} {b : Bool} (hd : H d = some (.xd fs)) (e : PySem.W.kitOne K (.ref D) (.ref A) = some b) (k : Q (.bl b) H) : rIsX K D a (.ref D) (some d) [.ref a, .ref A] H Q := ⟨_, _, b, d, fs, rfl, rfl, rfl, hd, fun u h => h, e, k⟩
theorem x_isXt {T : String} {b : Bool} (hd : H d = some (.xd fs)) (e : PySem.W.kitOne K (.ref D) (.type T) = some b) (k : Q (.bl b) H) : rIsX K D a (.ref D) (some d) [.ref a, .ty T] H Q := ⟨_, _, b, d, fs, rfl, rfl, rfl, hd, fun u h => h, e, k⟩
/-- e.f -/
def isXf (a : Addr) (cls : Value) (dd : Option Addr) (C : Addr) (f : Str) (x : V) (H1 : Hp) (Q : VK) : Prop := x = .ref a ∧ cls = .ref C ∧ ∃ (d : Addr) (fs : List (Str × V)) (v : V), dd = some d ∧ H1 d = some (.xd fs) ∧ fs.lookup f = some v ∧ Q v H1
theorem x_xf {cls : Value} {dd : Option Addr} {C : Addr} {f : Str} (k : te σ H fun x H1 => isXf a cls dd C f x H1 Q) : tXf a cls dd C f te σ H Q := k
theorem x_isXf {f : Str} {v : V} (hd : H d = some (.xd fs)) (l : fs.lookup f = some v) (k : Q v H) : isXf a (.ref D) (some d) D f (.ref a) H Q := ⟨rfl, rfl, d, fs, v, rfl, hd, l, k⟩
theorem x_callS {sp : Sp} {W : WX} {tr : TA} (k : tr σ H fun vs H1 => sp vs H1 Q (WE W σ)) : tCallS sp (WE W) tr σ H Q := k
end
section
variable {σ : St} {H : Hp} {Q : VK} {ta : TA} {te : TE} {g : TG} {vs : List Nat}
/-- [elt for x in range(n)] -/
theorem x_lcR {n : Int} {ys : List V} (hi : ∀ Q : List V → Hp → Prop, Q [.int n] H → ta σ H Q) (hz : 0 ≤ n ∧ n ≤ 100000) (hy : ys.length = n.toNat)
    (hs : ∀ (i : Nat) (y : V) (H' : Hp), (i : Int) < n → ys[i]? = some y → Same H H' → g (.int (i : Int)) (wipe σ vs) H' fun σ2 H2 => wipe σ2 vs = wipe σ vs ∧ H2 = H' ∧ ∀ R : VK, R y H' → te σ2 H' R)
    (k : ∀ p H2, H p = none → Same H H2 → H2 p = some (.lst ys) → Q (.ref p) H2) (hg : ∀ x σ H (P P' : St → Hp → Prop), (∀ σ H, P σ H → P' σ H) → g x σ H P → g x σ H P') : tLc (iRng1 ta) g tYes te vs σ H Q := by
  refine hi _ ⟨n, rfl, by omega, by omega, fun D hD => ?_⟩
  refine lc_range (lo := 0) (n := n.toNat) (fun i H' => Same H H' ∧ H' D = some (.lst (ys.take i))) ⟨same_new hD, upd_same⟩ (fun i H' hi p => ?_) (fun H' p => ?_)
  · have hlt : i < ys.length := by rw [hy]; exact hi
    have hyi : ys[i]? = some ys[i] := List.getElem?_eq_getElem hlt
    have e0 : (0 : Int) + (i : Int) = (i : Int) := Int.zero_add _
    rw [e0]
    refine hg _ _ _ _ _ (fun σ2 H2 q => ?_) (hs i ys[i] H' (by omega) hyi p.1)
    obtain ⟨q1, rfl, q2⟩ := q
    refine ⟨q1, ?_⟩
    refine q2 _ ⟨ys.take i, p.2, ?_, ?_, ?_⟩
    · rw [List.length_take, sizeLine_eq]; omega
    · intro b o e
      have hb : b ≠ D := ne_of_none e hD
      rw [upd_ne hb]
      exact p.1 b o e
    · rw [upd_same, ← List.take_append_getElem hlt]
  · have e : ys.take n.toNat = ys := by rw [← hy]; exact List.take_length
    rw [e] at p
    exact k D H' hD p.1 p.2
end
theorem atI_strs {l : List Str} {i : Int} (h0 : 0 ≤ i) (h1 : i < l.length) : atI (l.map V.str) i = some (.str (l.getD i.toNat "")) := by
  refine atI_of h0 ?_
  have hl : i.toNat < l.length := by omega
  rw [List.getElem?_map, List.getElem?_eq_getElem hl]
  simp [List.getD, hl]
theorem bEq {Q : VK} {H : Hp} {b b' : Bool} (k : Q (.bl b) H) (e : b = b') : Q (.bl b') H := e ▸ k
theorem iEq {Q : VK} {H : Hp} {b b' : Int} (k : Q (.int b) H) (e : b = b') : Q (.int b') H := e ▸ k
section
variable {H : Hp} {Q : VK} {p : Addr} {i : Int} {z : Str}
theorem x_isN0 (k : Q (.bl true) H) : rIsN .non .non H Q := ⟨rfl, k⟩
theorem x_isNr (k : Q (.bl false) H) : rIsN (.ref p) .non H Q := ⟨rfl, k⟩
theorem x_isNi (k : Q (.bl false) H) : rIsN (.int i) .non H Q := ⟨rfl, k⟩
theorem x_isNs (k : Q (.bl false) H) : rIsN (.str z) .non H Q := ⟨rfl, k⟩
theorem x_notN0 (k : Q (.bl false) H) : rNotN .non .non H Q := ⟨rfl, k⟩
theorem x_notNr (k : Q (.bl true) H) : rNotN (.ref p) .non H Q := ⟨rfl, k⟩
theorem x_notNi (k : Q (.bl true) H) : rNotN (.int i) .non H Q := ⟨rfl, k⟩
theorem x_notNs (k : Q (.bl true) H) : rNotN (.str z) .non H Q := ⟨rfl, k⟩
end
end M
namespace K01
open PySem PySem.Spec PyProof.Rows L2
def top (i : Nat) : Stmt := PySem.Challenge.pw_merestone_k01_instructions_and_their_wor.main.body.getD i (.Pass ⟨0, 0, 0, 0⟩)
abbrev inClass (s : Stmt) (j : Nat) : Stmt := match s with | .ClassDef (body := b) .. => b.getD j (.Pass ⟨0, 0, 0, 0⟩) | _ => .Pass ⟨0, 0, 0, 0⟩
abbrev s_BadCode___init__ : Stmt := (inClass (top 2) 0)
abbrev s_fits : Stmt := (top 12)
abbrev s_encode : Stmt := (top 13)
abbrev s_decode : Stmt := (top 14)
abbrev s_size_of : Stmt := (top 15)
abbrev s__law_number : Stmt := (top 17)
abbrev s__law_ops : Stmt := (top 18)
abbrev s__law_most : Stmt := (top 19)
abbrev s__law_fits : Stmt := (top 20)
abbrev s__law_is : Stmt := (top 21)
abbrev s__law_parts : Stmt := (top 22)
abbrev s__law_decoded : Stmt := (top 23)
abbrev s__law_encoded : Stmt := (top 24)
abbrev s_law : Stmt := (top 25)
structure Tx (P : Program) (K : PySem.W.Frag) (mg : Str → Option Value) : Prop where
  f_fits : ∃ fd, FunD K "fits" "fits" (defArgs s_fits) (defBody s_fits) (defScope s_fits) [] [] (He.ga K "fits") fd
  g_fits : mg "fits" = some (.ref (He.ga K "fits"))
  f_encode : ∃ fd, FunD K "encode" "encode" (defArgs s_encode) (defBody s_encode) (defScope s_encode) [] [] (He.ga K "encode") fd
  g_encode : mg "encode" = some (.ref (He.ga K "encode"))
  f_decode : ∃ fd, FunD K "decode" "decode" (defArgs s_decode) (defBody s_decode) (defScope s_decode) [] [] (He.ga K "decode") fd
  g_decode : mg "decode" = some (.ref (He.ga K "decode"))
  f_size_of : ∃ fd, FunD K "size_of" "size_of" (defArgs s_size_of) (defBody s_size_of) (defScope s_size_of) [] [] (He.ga K "size_of") fd
  g_size_of : mg "size_of" = some (.ref (He.ga K "size_of"))
  f__law_number : ∃ fd, FunD K "_law_number" "_law_number" (defArgs s__law_number) (defBody s__law_number) (defScope s__law_number) [] [] (He.ga K "_law_number") fd
  g__law_number : mg "_law_number" = some (.ref (He.ga K "_law_number"))
  f__law_ops : ∃ fd, FunD K "_law_ops" "_law_ops" (defArgs s__law_ops) (defBody s__law_ops) (defScope s__law_ops) [] [] (He.ga K "_law_ops") fd
  g__law_ops : mg "_law_ops" = some (.ref (He.ga K "_law_ops"))
  f__law_most : ∃ fd, FunD K "_law_most" "_law_most" (defArgs s__law_most) (defBody s__law_most) (defScope s__law_most) [] [] (He.ga K "_law_most") fd
  g__law_most : mg "_law_most" = some (.ref (He.ga K "_law_most"))
  f__law_fits : ∃ fd, FunD K "_law_fits" "_law_fits" (defArgs s__law_fits) (defBody s__law_fits) (defScope s__law_fits) [] [] (He.ga K "_law_fits") fd
  g__law_fits : mg "_law_fits" = some (.ref (He.ga K "_law_fits"))
  f__law_is : ∃ fd, FunD K "_law_is" "_law_is" (defArgs s__law_is) (defBody s__law_is) (defScope s__law_is) [] [] (He.ga K "_law_is") fd
  g__law_is : mg "_law_is" = some (.ref (He.ga K "_law_is"))
  f__law_parts : ∃ fd, FunD K "_law_parts" "_law_parts" (defArgs s__law_parts) (defBody s__law_parts) (defScope s__law_parts) [] [] (He.ga K "_law_parts") fd
  g__law_parts : mg "_law_parts" = some (.ref (He.ga K "_law_parts"))
  f__law_decoded : ∃ fd, FunD K "_law_decoded" "_law_decoded" (defArgs s__law_decoded) (defBody s__law_decoded) (defScope s__law_decoded) [] [] (He.ga K "_law_decoded") fd
  g__law_decoded : mg "_law_decoded" = some (.ref (He.ga K "_law_decoded"))
  f__law_encoded : ∃ fd, FunD K "_law_encoded" "_law_encoded" (defArgs s__law_encoded) (defBody s__law_encoded) (defScope s__law_encoded) [] [] (He.ga K "_law_encoded") fd
  g__law_encoded : mg "_law_encoded" = some (.ref (He.ga K "_law_encoded"))
  f_law : ∃ fd, FunD K "law" "law" (defArgs s_law) (defBody s_law) (defScope s_law) [] [] (He.ga K "law") fd
  g_law : mg "law" = some (.ref (He.ga K "law"))
  g_MerestoneError : mg "MerestoneError" = some (.ref (He.ga K "MerestoneError"))
  g_BadCode : mg "BadCode" = some (.ref (He.ga K "BadCode"))
  e_BadCode : XM.ExcOk P K (He.ga K "BadCode") (He.ma K (He.ga K "BadCode") "__init__") "BadCode.__init__" (defArgs s_BadCode___init__) (defBody s_BadCode___init__) (defScope s_BadCode___init__) ["op", "a", "b", "c"]
  x_BadCode : XfC K (He.ga K "BadCode")
  i_BadCode : ExcC K (He.ga K "BadCode")
  nf_BadCode_op : PySem.W.findIn K (.ref (He.ga K "BadCode")) "op" = some none
  nf_BadCode_a : PySem.W.findIn K (.ref (He.ga K "BadCode")) "a" = some none
  nf_BadCode_b : PySem.W.findIn K (.ref (He.ga K "BadCode")) "b" = some none
  nf_BadCode_c : PySem.W.findIn K (.ref (He.ga K "BadCode")) "c" = some none
  exm_BadCode_BadCode : PySem.W.exmOne K (.ref (He.ga K "BadCode")) (.ref (He.ga K "BadCode")) = some true
  kit_BadCode_MerestoneError : PySem.W.kitOne K (.ref (He.ga K "BadCode")) (.ref (He.ga K "MerestoneError")) = some true
  kit_BadCode_ValueError : PySem.W.kitOne K (.ref (He.ga K "BadCode")) (.type "ValueError") = some true
  g_OPS : ∃ u, mg "OPS" = some u ∧ RelV (.ref (He.ga K "OPS")) u
  q_OPS : ∀ H, SqT K H (He.ga K "OPS") [.str "halt", .str "set", .str "copy", .str "add", .str "sub", .str "mul", .str "and", .str "or", .str "xor", .str "shl", .str "shr", .str "addi", .str "load", .str "store", .str "jump", .str "jal", .str "beq", .str "bne", .str "blt", .str "call", .str "getu", .str "putu", .str "gets", .str "puts", .str "until", .str "rest"]
  o_OPS : ∃ o, K.lookup (He.ga K "OPS") = some o ∧ o.cls = .type "tuple" ∧ o.dict = none
  g_KERNEL_ONLY : ∃ u, mg "KERNEL_ONLY" = some u ∧ RelV (.ref (He.ga K "KERNEL_ONLY")) u
  q_KERNEL_ONLY : ∀ H, SqT K H (He.ga K "KERNEL_ONLY") [.str "getu", .str "putu", .str "gets", .str "puts", .str "until", .str "rest"]
  g_NONE : ∃ u, mg "NONE" = some u ∧ RelV (.ref (He.ga K "NONE")) u
  q_NONE : ∀ H, SqT K H (He.ga K "NONE") [.str "halt", .str "until", .str "rest"]
  g_ONE : ∃ u, mg "ONE" = some u ∧ RelV (.ref (He.ga K "ONE")) u
  q_ONE : ∀ H, SqT K H (He.ga K "ONE") [.str "set", .str "jump"]
  g_TWO : ∃ u, mg "TWO" = some u ∧ RelV (.ref (He.ga K "TWO")) u
  q_TWO : ∀ H, SqT K H (He.ga K "TWO") [.str "copy", .str "jal", .str "getu", .str "putu"]
  g_THREE : ∃ u, mg "THREE" = some u ∧ RelV (.ref (He.ga K "THREE")) u
  q_THREE : ∀ H, SqT K H (He.ga K "THREE") [.str "add", .str "sub", .str "mul", .str "and", .str "or", .str "xor"]
  g_READABLE : ∃ u, mg "READABLE" = some u ∧ RelV (.int 7) u
  g_WRITABLE : ∃ u, mg "WRITABLE" = some u ∧ RelV (.int 5) u
  b_int : mg "int" = none
  b_bool : mg "bool" = none
  b_str : mg "str" = none
  b_len : mg "len" = none
  b_range : mg "range" = none
  b_min : mg "min" = none
  b_isinstance : mg "isinstance" = none
  b_tuple : mg "tuple" = none
  b_ValueError : mg "ValueError" = none
  b_super : mg "super" = none
local macro_rules | `(tactic| walk_at "s") => `(tactic| first
  | ((with_reducible refine' M.x_var ?xv ?_); (case xv => exact rfl))
  | with_reducible refine M.x_c ?_
  | with_reducible refine M.x_op ?_
  | with_reducible refine M.x_seq ?_
  | with_reducible refine M.x_asg ?_
  | with_reducible refine M.x_gname ?_
  | with_reducible refine M.x_rI0 ?_
  | ((with_reducible refine' M.x_rI ?xc ?_); (case xc => walk_at "side"))
  | with_reducible refine M.x_call ?_
  | with_reducible refine M.x_callB ?_
  | with_reducible refine M.x_cons ?_
  | with_reducible refine M.x_nil ?_
  | with_reducible refine M.x_int ?_
  | with_reducible refine M.x_intB ?_
  | with_reducible refine M.x_ifS ?_
  | with_reducible refine M.x_test ?_
  | with_reducible refine M.x_tB ?_
  | with_reducible refine M.x_isB ?_
  | with_reducible refine M.x_ret ?_
  | with_reducible refine M.x_retN ?_
  | with_reducible refine M.x_next ?_
  | with_reducible refine M.x_brk ?_
  | with_reducible refine M.x_cont ?_
  | with_reducible refine M.x_drop ?_
  | with_reducible refine M.x_eqI ?_
  | with_reducible refine M.x_neI ?_
  | with_reducible refine M.x_eqS ?_
  | with_reducible refine M.x_neS ?_
  | with_reducible refine M.x_eqB ?_
  | with_reducible refine M.x_neB ?_
  | with_reducible refine M.x_ifT ?_
  | with_reducible refine M.x_ifF ?_
  | with_reducible refine M.x_and ?_
  | with_reducible refine M.x_or ?_
  | with_reducible refine M.x_not ?_
  | with_reducible refine M.x_ifNB ?_
  | with_reducible refine M.x_andV ?_
  | with_reducible refine M.x_orV ?_
  | with_reducible refine M.x_notV ?_
  | with_reducible refine M.x_ifE ?_
  | with_reducible refine M.x_chain ?_
  | with_reducible refine M.x_isN ?_
  | with_reducible refine M.x_notN ?_
  | with_reducible refine M.x_un ?_
  | with_reducible refine M.x_rU ?_
  | with_reducible refine M.x_max2 ?_
  | with_reducible refine M.x_min2 ?_
  | with_reducible refine M.x_isiII ?_
  | with_reducible refine M.x_isiIB ?_
  | with_reducible refine M.x_isiBB ?_
  | with_reducible refine M.x_isiSS ?_
  | ((with_reducible refine' M.x_ifTD ?xp ?_); (case xp => first | exact rfl | decide | omega))
  | ((with_reducible refine' M.x_ifFD ?xp ?_); (case xp => first | exact rfl | decide | omega))
  | with_reducible refine M.x_lst' ?_
  | with_reducible refine M.x_tup' ?_)
local macro_rules | `(tactic| walk_at "side") => `(tactic| first
  | decide
  | (show (0 : Int) < _; decide)
  | (show (0 : Int) < _; omega)
  | (show (0 : Int) ≤ _; omega)
  | (exact ⟨by decide, by decide⟩)
  | (exact ⟨by omega, by omega⟩)
  | (exact Or.inr ⟨by decide, by decide⟩)
  | (exact Or.inl ⟨by decide, by decide⟩)
  | (exact Or.inr ⟨by omega, by omega⟩)
  | (exact Or.inl ⟨by omega, by omega⟩)
  | (exact ⟨by decide, by decide, by decide⟩)
  | (exact ⟨by omega, by omega, by omega⟩))
local macro_rules | `(tactic| walk_at "go") => `(tactic| (repeat walk_at "s"))
local macro_rules | `(tactic| walk_at "hp") => `(tactic| first
  | assumption
  | exact upd_same
  | ((refine' M.same_hp ?xe ?xq); (case xe => assumption); (case xq => walk_at "hp")))
local macro_rules | `(tactic| walk_at "seq") => `(tactic| first
  | assumption
  | exact SqL.of (by assumption)
  | ((refine' Same.seq ?xe ?xq); (case xe => assumption); (case xq => walk_at "seq")))
local macro_rules | `(tactic| walk_at "sqt") => `(tactic| first
  | assumption
  | exact SqT.of (by assumption)
  | ((refine' M.Same.st ?xe ?xq); (case xe => assumption); (case xq => walk_at "sqt")))
local macro_rules | `(tactic| walk_at "at") => `(tactic| first
  | exact rfl
  | exact M.atI_ints (by omega) (by omega)
  | exact M.atI_ints (by omega) (by simp; omega))
local macro_rules | `(tactic| walk_at "s") => `(tactic| first
  | with_reducible refine M.x_truV ?_
  | ((with_reducible refine' M.x_truL ?xh ?_); (case xh => walk_at "seq"))
  | with_reducible refine M.x_truI ?_
  | with_reducible refine M.x_isBl ?_
  | with_reducible refine M.x_notBl ?_
  | ((with_reducible refine' M.x_ixL ?xh ?xa ?_); (case xh => walk_at "seq"); (case xa => walk_at "at"))
  | ((with_reducible refine' M.x_ixT ?xh ?xa ?_); (case xh => walk_at "sqt"); (case xa => walk_at "at"))
  | ((with_reducible refine' M.x_lenL ?xh ?_); (case xh => walk_at "seq"))
  | ((with_reducible refine' M.x_lenT ?xh ?_); (case xh => walk_at "sqt"))
  | ((with_reducible refine' M.x_listL ?xh ?_); (case xh => walk_at "seq"))
  | ((with_reducible refine' M.x_newL ?xz ?_); (case xz => exact M.sl4 (by first | decide | simp)))
  | ((with_reducible refine' M.x_newT ?xz ?_); (case xz => exact M.sl4 (by first | decide | simp)))
  | ((with_reducible refine' M.x_cat ?xh ?xi ?xz ?_); (case xh => walk_at "hp"); (case xi => walk_at "hp"); (case xz => exact M.sl4 (by first | decide | simp))))

local macro_rules | `(tactic| walk_at "s") => `(tactic| first
  | ((with_reducible refine' M.x_inL ?xh ?xf ?xg ?_); (case xh => walk_at "seq"); (case xf => exact rfl); (case xg => first | exact rfl | exact M.flat_strsV _))
  | ((with_reducible refine' M.x_inT ?xh ?xf ?xg ?_); (case xh => walk_at "sqt"); (case xf => exact rfl); (case xg => first | exact rfl | exact M.flat_strsV _))
  | ((with_reducible refine' M.x_notInL ?xh ?xf ?xg ?_); (case xh => walk_at "seq"); (case xf => exact rfl); (case xg => first | exact rfl | exact M.flat_strsV _))
  | ((with_reducible refine' M.x_notInT ?xh ?xf ?xg ?_); (case xh => walk_at "sqt"); (case xf => exact rfl); (case xg => first | exact rfl | exact M.flat_strsV _))
  | with_reducible refine M.x_bm ?_
  | ((with_reducible refine' M.x_tyL ?xh ?_); (case xh => walk_at "seq"))
  | ((with_reducible refine' M.x_tyK ?xh ?_); (case xh => walk_at "tyk"))
  | with_reducible refine M.x_m1 ?_
  | with_reducible refine M.x_txt ?_
  | ((with_reducible refine' M.x_split ?xh ?xi ?_); (case xh => decide +kernel); (case xi => decide +kernel))
  | ((with_reducible refine' M.x_addZ ?xh ?_); (case xh => decide +kernel))
  | ((with_reducible refine' M.x_tupL ?xh ?_); (case xh => walk_at "seq"))
  | ((with_reducible refine' M.x_isiTT ?xh ?_); (case xh => walk_at "hp"))
  | with_reducible refine M.x_rz ?_
  | with_reducible refine M.x_mkE ?_
  | with_reducible refine M.x_tryAs ?_
  | with_reducible refine M.x_callS ?_
  | with_reducible refine M.x_xf ?_)
local macro_rules | `(tactic| walk_at "s") => `(tactic| first
  | with_reducible refine M.x_isN0 ?_
  | with_reducible refine M.x_isNr ?_
  | with_reducible refine M.x_isNi ?_
  | with_reducible refine M.x_isNs ?_
  | with_reducible refine M.x_notN0 ?_
  | with_reducible refine M.x_notNr ?_
  | with_reducible refine M.x_notNi ?_
  | with_reducible refine M.x_notNs ?_)
local macro_rules | `(tactic| walk_at "split") => `(tactic| (walk_at "go"; first | done | ((refine M.x_ifD (fun _ => ?_) (fun _ => ?_)) <;> walk_at "split") | ((refine M.x_if (fun _ => ?_) (fun _ => ?_)) <;> walk_at "split") | skip))
local macro_rules | `(tactic| walk_at "sqt") => `(tactic| first
  | exact Tx.q_OPS (by assumption) _
  | exact Tx.q_KERNEL_ONLY (by assumption) _
  | exact Tx.q_NONE (by assumption) _
  | exact Tx.q_ONE (by assumption) _
  | exact Tx.q_TWO (by assumption) _
  | exact Tx.q_THREE (by assumption) _)
local macro_rules | `(tactic| walk_at "tyk") => `(tactic| exact Tx.o_OPS (by assumption))

/-! ## instructions -/
section codes
variable {P : Program} {w : World} {K : PySem.W.Frag} {mg : Str → Option Value} {base : Heap}
def opsl : List Str := ["halt", "set", "copy", "add", "sub", "mul", "and", "or", "xor", "shl", "shr", "addi", "load", "store", "jump", "jal", "beq", "bne", "blt", "call", "getu", "putu", "gets", "puts", "until", "rest"]
def inBounds (a b c : Int) : Prop := (0 ≤ a ∧ a < 8) ∧ (0 ≤ b ∧ b < 8) ∧ (0 ≤ c ∧ c < 16)
instance (a b c : Int) : Decidable (inBounds a b c) := inferInstanceAs (Decidable (_ ∧ _))
def fitsM (op : Str) (a b c : Int) : Bool :=
  if (0 ≤ a ∧ a < 8) ∧ (0 ≤ b ∧ b < 8) ∧ (0 ≤ c ∧ c < 16) then
    if inV (.str op) [.str "halt", .str "until", .str "rest"] = true then decide (a = 0) && (decide (b = 0) && decide (c = 0))
    else if inV (.str op) [.str "set", .str "jump"] = true then decide (b = 0) && decide (c = 0)
    else if inV (.str op) [.str "copy", .str "jal", .str "getu", .str "putu"] = true then decide (c = 0)
    else if inV (.str op) [.str "add", .str "sub", .str "mul", .str "and", .str "or", .str "xor"] = true then decide (c < 8)
    else if op = "call" then decide (a = 0) && decide (b = 0)
    else if op = "gets" then decide (b = 0) && decide (c < 7)
    else if op = "puts" then decide (b = 0) && decide (c < 5)
    else true
  else false
theorem qb {Q : VK} {H : Hp} {b b' : Bool} (k : Q (.bl b) H) (e : b = b') : Q (.bl b') H := e ▸ k
def sp_fits : Sp := fun vs H Q _ => ∃ (op : Str) (a b c : Int), vs = [.str op, .int a, .int b, .int c] ∧ Q (.bl (fitsM op a b c)) H
theorem go_fits {op : Str} {a b c : Int} {H : Hp} {Q : VK} {E : XK} (k : Q (.bl (fitsM op a b c)) H) : sp_fits [.str op, .int a, .int b, .int c] H Q E := ⟨op, a, b, c, rfl, k⟩
abbrev M.N_fits : List Str := ["op", "a", "b", "c"]
theorem sc_fits : FnScope M.N_fits ["op", "a", "b", "c"] (defScope s_fits) := ⟨rfl, rfl, rfl, by decide +kernel, rfl, by decide +kernel, by decide +kernel⟩
theorem ok_fits (T : Tx P K mg) : C8.Cal P w K mg base 1 "fits" sp_fits [] := by
  refine M.cal_mk T.f_fits T.g_fits sc_fits (fun _ _ _ _ _ _ us hl => match us, hl with | [_, _, _, _], _ => rfl) (by rintro vs H Q E ⟨op, a, b, c, rfl, _⟩; rfl) fun cdv A outer s H vs Q E hr h => ?_
  obtain ⟨op, a, b, c, rfl, k⟩ := h
  refine ⟨_, (pss_cons (ps_if (PW.pt (pw_or (pt_not (pt_chain op_le op_lt pe_int (pv 1) pe_int)) (pw_or (pt_not (pt_chain op_le op_lt pe_int (pv 2) pe_int)) (pw_or1 (pt_not (pt_chain op_le op_lt pe_int (pv 3) pe_int)))))) (pss_one (ps_ret pe_bl)) pss_nil) (pss_cons (ps_if (pt_cmpR op_in_seq (pv 0) (C8.pe_gc (by rfl) T.g_NONE) (by rfl)) (pss_one (ps_ret (pe_and (pe_cmpR op_eq (pv 1) pe_int (nomark _)) (pe_and (pe_cmpR op_eq (pv 2) pe_int (nomark _)) (pe_one (pe_cmpR op_eq (pv 3) pe_int (nomark _))))))) pss_nil) (pss_cons (ps_if (pt_cmpR op_in_seq (pv 0) (C8.pe_gc (by rfl) T.g_ONE) (by rfl)) (pss_one (ps_ret (pe_and (pe_cmpR op_eq (pv 2) pe_int (nomark _)) (pe_one (pe_cmpR op_eq (pv 3) pe_int (nomark _)))))) pss_nil) (pss_cons (ps_if (pt_cmpR op_in_seq (pv 0) (C8.pe_gc (by rfl) T.g_TWO) (by rfl)) (pss_one (ps_ret (pe_cmpR op_eq (pv 3) pe_int (nomark _)))) pss_nil) (pss_cons (ps_if (pt_cmpR op_in_seq (pv 0) (C8.pe_gc (by rfl) T.g_THREE) (by rfl)) (pss_one (ps_ret (pe_cmpR op_lt (pv 3) pe_int (nomark _)))) pss_nil) (pss_cons (ps_if (pt_cmpR op_eq (pv 0) pe_str (nomark _)) (pss_one (ps_ret (pe_and (pe_cmpR op_eq (pv 1) pe_int (nomark _)) (pe_one (pe_cmpR op_eq (pv 2) pe_int (nomark _)))))) pss_nil) (pss_cons (ps_if (pt_cmpR op_eq (pv 0) pe_str (nomark _)) (pss_one (ps_ret (pe_and (pe_cmpR op_eq (pv 2) pe_int (nomark _)) (pe_one (pe_cmpR op_lt (pv 3) (C8.pe_gc (by rfl) T.g_READABLE) (nomark _)))))) pss_nil) (pss_cons (ps_if (pt_cmpR op_eq (pv 0) pe_str (nomark _)) (pss_one (ps_ret (pe_and (pe_cmpR op_eq (pv 2) pe_int (nomark _)) (pe_one (pe_cmpR op_lt (pv 3) (C8.pe_gc (by rfl) T.g_WRITABLE) (nomark _)))))) pss_nil) (pss_one (ps_ret pe_bl)))))))))), ?_⟩
  walk_at "split" <;> exact qb k (by unfold fitsM; first | (simp [*]; done) | simp_all)
local macro_rules | `(tactic| walk_at "s") => `(tactic| with_reducible refine go_fits ?_)
theorem fits_bounds {op : Str} {a b c : Int} (h : fitsM op a b c = true) : (0 ≤ a ∧ a < 8) ∧ (0 ≤ b ∧ b < 8) ∧ (0 ≤ c ∧ c < 16) := by
  unfold fitsM at h
  split at h
  · assumption
  · cases h
theorem ops_idx {op : Str} (h : op ∈ opsl) : opsl.idxOf op < 26 := List.idxOf_lt_length_of_mem h
def encM (op : Str) (a b c : Int) : Int := (opsl.idxOf op : Int) * 1024 + a * 128 + b * 16 + c
def okM (op : Str) (a b c : Int) : Prop := op ∈ opsl ∧ fitsM op a b c = true
instance (op : Str) (a b c : Int) : Decidable (okM op a b c) := inferInstanceAs (Decidable (_ ∧ _))
/-- encode: the word; or BadCode (of the class at C) with its fields -/
def sp_encode (C : Addr) : Sp := fun vs H Q E => ∃ (op : Str) (a b c : Int), vs = [.str op, .int a, .int b, .int c] ∧ op.length ≤ 1000 ∧ a.natAbs < 1000000000 ∧ b.natAbs < 1000000000 ∧ c.natAbs < 1000000000 ∧
  (okM op a b c → Q (.int (encM op a b c)) H) ∧ (¬ okM op a b c → ∀ d, H d = none → E (.ref C) (some d) (upd H d (.xd [("c", .int c), ("b", .int b), ("a", .int a), ("op", .str op)])))
abbrev M.N_encode : List Str := ["op", "a", "b", "c"]
theorem sc_encode : FnScope M.N_encode ["op", "a", "b", "c"] (defScope s_encode) := ⟨rfl, rfl, rfl, by decide +kernel, rfl, by decide +kernel, by decide +kernel⟩
theorem inV_ops {op : Str} : inV (.str op) [.str "halt", .str "set", .str "copy", .str "add", .str "sub", .str "mul", .str "and", .str "or", .str "xor", .str "shl", .str "shr", .str "addi", .str "load", .str "store", .str "jump", .str "jal", .str "beq", .str "bne", .str "blt", .str "call", .str "getu", .str "putu", .str "gets", .str "puts", .str "until", .str "rest"] = decide (op ∈ opsl) := M.inV_strs (l := opsl)
theorem ok_encode (T : Tx P K mg) : M.CalX P w K mg base 4 "encode" (sp_encode (He.ga K "BadCode")) := by
  refine M.cal_mkX T.f_encode T.g_encode sc_encode (fun _ _ _ _ _ _ us hl => match us, hl with | [_, _, _, _], _ => rfl) (by rintro vs H Q E ⟨op, a, b, c, rfl, _⟩; rfl) fun cdv A outer s H vs Q E hr h => ?_
  obtain ⟨op, a, b, c, rfl, hop, ha, hb, hc, k1, k2⟩ := h
  refine ⟨_, (pss_cons (ps_if (PW.pt (pw_or (pt_cmpR op_notIn_seq (pv 0) (C8.pe_gc (by rfl) T.g_OPS) (by rfl)) (pw_or1 (pt_not (pt_val (C8.pe_c (ok_fits T) hr (by decide) (by rfl) (pa_cons (pv 0) (pa_cons (pv 1) (pa_cons (pv 2) (pa_cons (pv 3) pa_nil)))))))))) (pss_one (M.ps_rz rfl (L2N.takes_of rfl rfl rfl rfl) (XM.pmk_ok T.e_BadCode hr (pa_cons (pv 0) (pa_cons (pv 1) (pa_cons (pv 2) (pa_cons (pv 3) pa_nil)))) T.g_BadCode T.b_str T.b_super (by rfl)))) pss_nil) (pss_one (ps_ret (pe_op op_add (pe_op op_add (pe_op op_add (pe_op op_shl (pe_bm PySem.F.plainAttrs_tuple PySem.F.slot_tuple_index PySem.F.type_tuple_index M.mt_tindex (C8.pe_gc (by rfl) T.g_OPS) (pa_cons (pv 0) pa_nil)) pe_int) (pe_op op_shl (pv 1) pe_int)) (pe_op op_shl (pv 2) pe_int)) (pv 3))))), ?_⟩
  walk_at "go"
  rw [inV_ops]
  walk_at "go"
  refine M.x_ifD (fun h1 => ?_) (fun h1 => ?_)
  · walk_at "go"
    refine M.x_if (fun h2 => ?_) (fun h2 => ?_)
    · walk_at "go"
      have hi := ops_idx h1
      have hbd := fits_bounds h2
      refine M.x_tidx (l := opsl) (T.q_OPS _) h1 ?_
      walk_at "go"
      exact k1 ⟨h1, h2⟩
    · walk_at "go"
      refine ⟨rfl, ?_, fun d hd => k2 (fun q => by rw [q.2] at h2; cases h2) d hd⟩
      intro v hv
      simp only [List.mem_cons, List.not_mem_nil, or_false] at hv
      rcases hv with rfl | rfl | rfl | rfl
      · exact .inr ⟨_, rfl, hop⟩
      · exact .inl ⟨_, rfl, ha⟩
      · exact .inl ⟨_, rfl, hb⟩
      · exact .inl ⟨_, rfl, hc⟩
  · walk_at "go"
    refine ⟨rfl, ?_, fun d hd => k2 (fun q => h1 q.1) d hd⟩
    intro v hv
    simp only [List.mem_cons, List.not_mem_nil, or_false] at hv
    rcases hv with rfl | rfl | rfl | rfl
    · exact .inr ⟨_, rfl, hop⟩
    · exact .inl ⟨_, rfl, ha⟩
    · exact .inl ⟨_, rfl, hb⟩
    · exact .inl ⟨_, rfl, hc⟩
theorem and_7 {x : Int} (h : 0 ≤ x) : Builtin.bitAnd x 7 = x % 8 := by
  obtain ⟨n, rfl⟩ := Int.eq_ofNat_of_zero_le h
  rw [PyProof.Rows.bitAnd_pp h (by decide)]
  have e := Nat.and_two_pow_sub_one_eq_mod n 3
  show ((n &&& 7 : Nat) : Int) = _
  rw [show (7 : Nat) = 2 ^ 3 - 1 by decide, e]
  push_cast
  rfl
theorem and_15 {x : Int} (h : 0 ≤ x) : Builtin.bitAnd x 15 = x % 16 := by
  obtain ⟨n, rfl⟩ := Int.eq_ofNat_of_zero_le h
  rw [PyProof.Rows.bitAnd_pp h (by decide)]
  have e := Nat.and_two_pow_sub_one_eq_mod n 4
  show ((n &&& 15 : Nat) : Int) = _
  rw [show (15 : Nat) = 2 ^ 4 - 1 by decide, e]
  push_cast
  rfl
def opOf (x : Int) : Str := opsl.getD (x / 1024).toNat ""
def decOk (x : Int) : Prop := x < 26624 ∧ fitsM (opOf x) (x / 128 % 8) (x / 16 % 8) (x % 16) = true
instance (x : Int) : Decidable (decOk x) := inferInstanceAs (Decidable (_ ∧ _))
def decV (x : Int) : List V := [.str (opOf x), .int (x / 128 % 8), .int (x / 16 % 8), .int (x % 16)]
def sp_decode : Sp := fun vs H Q _ => ∃ x : Int, vs = [.int x] ∧ (0 ≤ x ∧ x < 65536) ∧ (¬ decOk x → Q .non H) ∧ (decOk x → ∀ p H', H p = none → Same H H' → H' p = some (.tup (decV x)) → Q (.ref p) H')
theorem op_at {x : Int} (h : 0 ≤ x ∧ x < 26624) : atI (opsl.map V.str) (x / 2 ^ Int.toNat 10) = some (.str (opOf x)) := by
  have e : x / 2 ^ Int.toNat 10 = x / 1024 := by rfl
  rw [e]
  have hl : (x / 1024).toNat < opsl.length := by
    have e2 : opsl.length = 26 := rfl
    omega
  refine M.atI_of (xs := opsl.map V.str) (by omega) ?_
  rw [List.getElem?_map, List.getElem?_eq_getElem hl]
  simp [opOf, List.getD, hl]
abbrev M.N_decode : List Str := ["word", "op", "a", "b", "c"]
theorem sc_decode : FnScope M.N_decode ["word"] (defScope s_decode) := ⟨rfl, rfl, rfl, by decide +kernel, rfl, by decide +kernel, by decide +kernel⟩
theorem ok_decode (T : Tx P K mg) : C8.Cal P w K mg base 2 "decode" sp_decode [] := by
  refine M.cal_mk T.f_decode T.g_decode sc_decode (fun _ _ _ _ _ _ us hl => match us, hl with | [_], _ => rfl) (by rintro vs H Q E ⟨x, rfl, _⟩; rfl) fun cdv A outer s H vs Q E hr h => ?_
  obtain ⟨x, rfl, hx, k1, k2⟩ := h
  refine ⟨_, (pss_cons (ps_if (pt_cmpR op_ge (pe_op op_shr (pv 0) pe_int) (pe_callB M.call_len (by rfl) T.b_len (by decide +kernel) (pa_cons (C8.pe_gc (by rfl) T.g_OPS) pa_nil)) (nomark _)) (pss_one (ps_ret pe_non)) pss_nil) (pss_cons (ps_set (i := 1) sc_decode.nd rfl (Or.inl rfl) (pe_ix ix_tup (C8.pe_gc (by rfl) T.g_OPS) (pe_op op_shr (pv 0) pe_int) (fun _ _ => rfl))) (pss_cons (ps_set (i := 2) sc_decode.nd rfl (Or.inl rfl) (pe_op op_and (pe_op op_shr (pv 0) pe_int) pe_int)) (pss_cons (ps_set (i := 3) sc_decode.nd rfl (Or.inl rfl) (pe_op op_and (pe_op op_shr (pv 0) pe_int) pe_int)) (pss_cons (ps_set (i := 4) sc_decode.nd rfl (Or.inl rfl) (pe_op op_and (pv 0) pe_int)) (pss_one (ps_ret (pe_ifExp (pt_val (C8.pe_c (ok_fits T) hr (by decide) (by rfl) (pa_cons (pv 1) (pa_cons (pv 2) (pa_cons (pv 3) (pa_cons (pv 4) pa_nil)))))) (pe_tup (pa_cons (pv 1) (pa_cons (pv 2) (pa_cons (pv 3) (pa_cons (pv 4) pa_nil))))) pe_non)))))))), ?_⟩
  walk_at "go"
  have e10 : x / 2 ^ Int.toNat 10 = x / 1024 := by rfl
  have e7 : Builtin.bitAnd (x / 2 ^ Int.toNat 7) 7 = x / 128 % 8 := and_7 (x := x / 128) (by omega)
  have e4 : Builtin.bitAnd (x / 2 ^ Int.toNat 4) 7 = x / 16 % 8 := and_7 (x := x / 16) (by omega)
  have e0 : Builtin.bitAnd x 15 = x % 16 := and_15 hx.1
  refine M.x_ifD (fun h1 => ?_) (fun h1 => ?_)
  · walk_at "go"
    have h1 : x / 1024 ≥ 26 := h1
    exact k1 (fun q => by have := q.1; omega)
  · have h1 : ¬ x / 1024 ≥ 26 := h1
    walk_at "go"
    refine M.x_ixT (T.q_OPS _) (op_at (x := x) ⟨hx.1, by omega⟩) ?_
    walk_at "go"
    rw [e7, e4, e0]
    refine M.x_if (fun h2 => ?_) (fun h2 => ?_)
    · walk_at "go"
      intro p H' hp e h'
      exact k2 ⟨by omega, h2⟩ p H' hp e h'
    · walk_at "go"
      exact k1 (fun q => by rw [q.2] at h2; cases h2)
def sp_size_of : Sp := fun vs H Q _ => ∃ op : Str, vs = [.str op] ∧ Q (.int (if op = "set" then 2 else 1)) H
theorem go_size_of {op : Str} {H : Hp} {Q : VK} {E : XK} (k : Q (.int (if op = "set" then 2 else 1)) H) : sp_size_of [.str op] H Q E := ⟨op, rfl, k⟩
abbrev M.N_size_of : List Str := ["op"]
theorem sc_size_of : FnScope M.N_size_of ["op"] (defScope s_size_of) := ⟨rfl, rfl, rfl, by decide +kernel, rfl, by decide +kernel, by decide +kernel⟩
theorem ok_size_of (T : Tx P K mg) : C8.Cal P w K mg base 1 "size_of" sp_size_of [] := by
  refine M.cal_mk T.f_size_of T.g_size_of sc_size_of (fun _ _ _ _ _ _ us hl => match us, hl with | [_], _ => rfl) (by rintro vs H Q E ⟨op, rfl, _⟩; rfl) fun cdv A outer s H vs Q E hr h => ?_
  obtain ⟨op, rfl, k⟩ := h
  refine ⟨_, (pss_one (ps_ret (pe_ifExp (pt_cmpR op_eq (pv 0) pe_str (nomark _)) pe_int pe_int))), ?_⟩
  walk_at "go"
  refine M.x_ifD (fun h1 => ?_) (fun h1 => ?_)
  · walk_at "go"
    rw [if_pos h1] at k
    exact k
  · walk_at "go"
    rw [if_neg h1] at k
    exact k
end codes

/-! ## _law_number -/
section lawnum
variable {P : Program} {w : World} {K : PySem.W.Frag} {mg : Str → Option Value} {base : Heap}
def mixed (cell k : Int) : Int := (cell * 48271 + k * 69621 + 11) % 2147483647
def lawNumber (cell k : Int) : Int := if 10 ^ 18 ≤ cell then cell else (mixed cell k * mixed cell k + k * 40692) % 2147483399
theorem mixed_lt (cell k : Int) : 0 ≤ mixed cell k ∧ mixed cell k < 2147483647 := by unfold mixed; omega
def sp__law_number : Sp := fun vs H Q _ => ∃ a b : Int, vs = [.int a, .int b] ∧ Q (.int (lawNumber a b)) H
theorem go__law_number {a b : Int} {H : Hp} {Q : VK} {E : XK} (k : Q (.int (lawNumber a b)) H) : sp__law_number [.int a, .int b] H Q E := ⟨a, b, rfl, k⟩
abbrev M.N__law_number : List Str := ["cell", "k", "mixed"]
theorem sc__law_number : FnScope M.N__law_number ["cell", "k"] (defScope s__law_number) := ⟨rfl, rfl, rfl, by decide +kernel, rfl, by decide +kernel, by decide +kernel⟩
theorem ok__law_number (T : Tx P K mg) : C8.Cal P w K mg base 1 "_law_number" sp__law_number [] := by
  refine M.cal_mk T.f__law_number T.g__law_number sc__law_number (fun _ _ _ _ _ _ us hl => match us, hl with | [_, _], _ => rfl) (by rintro vs H Q E ⟨a, b, rfl, _⟩; rfl) fun cdv A outer s H vs Q E hr h => ?_
  obtain ⟨a, b, rfl, k⟩ := h
  refine ⟨_, (pss_cons (ps_if (pt_cmpR op_ge (pv 0) (pe_op op_pow pe_int pe_int) (nomark _)) (pss_one (ps_ret (pv 0))) pss_nil) (pss_cons (ps_set (i := 2) sc__law_number.nd rfl (Or.inl rfl) (pe_op op_mod (pe_callTy M.call_int (by rfl) T.b_int (by decide +kernel) (pa_cons (pe_op op_add (pe_op op_add (pe_op op_mul (pv 0) pe_int) (pe_op op_mul (pv 1) pe_int)) pe_int) pa_nil)) pe_int)) (pss_one (ps_ret (pe_op op_mod (pe_callTy M.call_int (by rfl) T.b_int (by decide +kernel) (pa_cons (pe_op op_add (pe_op op_mul (pv 2) (pv 2)) (pe_op op_mul (pv 1) pe_int)) pa_nil)) pe_int))))), ?_⟩
  walk_at "go"
  unfold lawNumber at k
  refine M.x_ifD (fun h => ?_) (fun h => ?_)
  · have h : (10 : Int) ^ 18 ≤ a := h
    walk_at "go"
    rw [if_pos h] at k
    exact k
  · have h : ¬ (10 : Int) ^ 18 ≤ a := h
    walk_at "go"
    rw [if_neg h] at k
    have hm := mixed_lt a b
    unfold mixed at hm k
    walk_at "go"
    exact k
end lawnum

section
variable {P : Program} {w : World} {K : PySem.W.Frag} {mg : Str → Option Value} {base : Heap}
def sp__law_ops : Sp := fun vs H Q _ => vs = [] ∧ ∀ p H', H p = none → Same H H' → H' p = some (.lst (opsl.map V.str)) → Q (.ref p) H'
theorem go__law_ops {H : Hp} {Q : VK} {E : XK} (k : ∀ p H', H p = none → Same H H' → H' p = some (.lst (opsl.map V.str)) → Q (.ref p) H') : sp__law_ops [] H Q E := ⟨rfl, k⟩
abbrev M.N__law_ops : List Str := ["words"]
theorem sc__law_ops : FnScope M.N__law_ops [] (defScope s__law_ops) := ⟨rfl, rfl, rfl, by decide +kernel, rfl, by decide +kernel, by decide +kernel⟩
theorem ok__law_ops (T : Tx P K mg) : C8.Cal P w K mg base 1 "_law_ops" sp__law_ops [] := by
  refine M.cal_mk T.f__law_ops T.g__law_ops sc__law_ops (fun _ _ _ _ _ _ us hl => match us, hl with | [], _ => rfl) (by rintro vs H Q E ⟨rfl, _⟩; rfl) fun cdv A outer s H vs Q E hr h => ?_
  obtain ⟨rfl, k⟩ := h
  refine ⟨_, (pss_cons (ps_set (i := 0) sc__law_ops.nd rfl (Or.inl rfl) pe_str) (pss_one (ps_ret (M.pe_splitZ (pe_op M.op_addS (pv 0) pe_str) pe_str)))), ?_⟩
  walk_at "go"
  intro p H' hp e h
  refine k p H' hp e ?_
  rw [h]
  exact congrArg (fun l : List Str => some (HO.lst (l.map V.str))) (by decide +kernel)
theorem okH__law_ops (T : Tx P K mg) : M.CalH P w K mg base 1 "_law_ops" sp__law_ops := by
  refine M.calH_mk T.f__law_ops T.g__law_ops sc__law_ops (fun _ _ _ _ _ _ us hl => match us, hl with | [], _ => rfl) (by rintro vs H Q E ⟨rfl, _⟩; rfl) fun cdv A outer s H vs Q E p hc hr h => ?_
  obtain ⟨rfl, k⟩ := h
  refine ⟨_, (pss_cons (ps_set (i := 0) sc__law_ops.nd rfl (Or.inl rfl) pe_str) (pss_one (ps_ret (M.pe_splitZ (pe_op M.op_addS (pv 0) pe_str) pe_str)))), ?_⟩
  walk_at "go"
  intro p H' hp e h
  refine k p H' hp e ?_
  rw [h]
  exact congrArg (fun l : List Str => some (HO.lst (l.map V.str))) (by decide +kernel)
def sp__law_is : Sp := fun vs H Q _ => ∃ a b : Int, vs = [.int a, .int b] ∧ Q (.bl (decide (a = b))) H
theorem go__law_is {a b : Int} {H : Hp} {Q : VK} {E : XK} (k : Q (.bl (decide (a = b))) H) : sp__law_is [.int a, .int b] H Q E := ⟨a, b, rfl, k⟩
abbrev M.N__law_is : List Str := ["actual", "due"]
theorem sc__law_is : FnScope M.N__law_is ["actual", "due"] (defScope s__law_is) := ⟨rfl, rfl, rfl, by decide +kernel, rfl, by decide +kernel, by decide +kernel⟩
theorem ok__law_is (T : Tx P K mg) : C8.Cal P w K mg base 1 "_law_is" sp__law_is [] := by
  refine M.cal_mk T.f__law_is T.g__law_is sc__law_is (fun _ _ _ _ _ _ us hl => match us, hl with | [_, _], _ => rfl) (by rintro vs H Q E ⟨a, b, rfl, _⟩; rfl) fun cdv A outer s H vs Q E hr h => ?_
  obtain ⟨a, b, rfl, k⟩ := h
  refine ⟨_, (pss_one (ps_ret (pe_and (pe_callB M.call_isi (by rfl) T.b_isinstance (by decide +kernel) (pa_cons (pv 0) (pa_cons (pe_bltn (v := V.ty "int") (u := Value.type "int") (by rfl) T.b_int (by decide +kernel) rfl) pa_nil))) (pe_and (pe_not (pe_callB M.call_isi (by rfl) T.b_isinstance (by decide +kernel) (pa_cons (pv 0) (pa_cons (pe_bltn (v := V.ty "bool") (u := Value.type "bool") (by rfl) T.b_bool (by decide +kernel) rfl) pa_nil)))) (pe_one (pe_cmpR op_eq (pv 0) (pv 1) (nomark _))))))), ?_⟩
  walk_at "go"
  exact k
theorem okH__law_is (T : Tx P K mg) : M.CalH P w K mg base 1 "_law_is" sp__law_is := by
  refine M.calH_mk T.f__law_is T.g__law_is sc__law_is (fun _ _ _ _ _ _ us hl => match us, hl with | [_, _], _ => rfl) (by rintro vs H Q E ⟨a, b, rfl, _⟩; rfl) fun cdv A outer s H vs Q E p hc hr h => ?_
  obtain ⟨a, b, rfl, k⟩ := h
  refine ⟨_, (pss_one (ps_ret (pe_and (pe_callB M.call_isi (by rfl) T.b_isinstance (by decide +kernel) (pa_cons (pv 0) (pa_cons (pe_bltn (v := V.ty "int") (u := Value.type "int") (by rfl) T.b_int (by decide +kernel) rfl) pa_nil))) (pe_and (pe_not (pe_callB M.call_isi (by rfl) T.b_isinstance (by decide +kernel) (pa_cons (pv 0) (pa_cons (pe_bltn (v := V.ty "bool") (u := Value.type "bool") (by rfl) T.b_bool (by decide +kernel) rfl) pa_nil)))) (pe_one (pe_cmpR op_eq (pv 0) (pv 1) (nomark _))))))), ?_⟩
  walk_at "go"
  exact k
def mostM (op : Str) : List Int :=
  if inV (.str op) [.str "halt", .str "until", .str "rest"] = true then [0, 0, 0]
  else if inV (.str op) [.str "set", .str "jump"] = true then [7, 0, 0]
  else if inV (.str op) [.str "copy", .str "jal", .str "getu", .str "putu"] = true then [7, 7, 0]
  else if inV (.str op) [.str "add", .str "sub", .str "mul", .str "and", .str "or", .str "xor"] = true then [7, 7, 7]
  else if op = "call" then [0, 0, 15]
  else if op = "gets" then [7, 0, 6]
  else if op = "puts" then [7, 0, 4]
  else [7, 7, 15]
theorem most_len (op : Str) : (mostM op).length = 3 := by
  unfold mostM
  repeat' split
  all_goals rfl
def sp__law_most : Sp := fun vs H Q _ => ∃ op : Str, vs = [.str op] ∧ ∀ p H', H p = none → Same H H' → H' p = some (.tup ((mostM op).map V.int)) → Q (.ref p) H'
theorem go__law_most {op : Str} {H : Hp} {Q : VK} {E : XK} (k : ∀ p H', H p = none → Same H H' → H' p = some (.tup ((mostM op).map V.int)) → Q (.ref p) H') : sp__law_most [.str op] H Q E := ⟨op, rfl, k⟩
abbrev M.N__law_most : List Str := ["op"]
theorem sc__law_most : FnScope M.N__law_most ["op"] (defScope s__law_most) := ⟨rfl, rfl, rfl, by decide +kernel, rfl, by decide +kernel, by decide +kernel⟩
theorem most_end {op : Str} {l : List Int} {H H2 H' : Hp} {p : Addr} {Q : VK} (k : ∀ p H', H p = none → Same H H' → H' p = some (.tup ((mostM op).map V.int)) → Q (.ref p) H') (e : mostM op = l) (hp : H2 p = none) (s1 : Same H H2) (s2 : Same H2 H') (h : H' p = some (.tup (l.map V.int))) : Q (.ref p) H' :=
  k p H' (s1.free hp) (s1.trans s2) (by rw [e]; exact h)
theorem ok__law_most (T : Tx P K mg) : C8.Cal P w K mg base 1 "_law_most" sp__law_most [] := by
  refine M.cal_mk T.f__law_most T.g__law_most sc__law_most (fun _ _ _ _ _ _ us hl => match us, hl with | [_], _ => rfl) (by rintro vs H Q E ⟨op, rfl, _⟩; rfl) fun cdv A outer s H vs Q E hr h => ?_
  obtain ⟨op, rfl, k⟩ := h
  refine ⟨_, (pss_cons (ps_if (pt_cmpR op_in_seq (pv 0) (pe_lst (pa_cons pe_str (pa_cons pe_str (pa_cons pe_str pa_nil)))) (by rfl)) (pss_one (ps_ret (pe_tup (pa_cons pe_int (pa_cons pe_int (pa_cons pe_int pa_nil)))))) pss_nil) (pss_cons (ps_if (pt_cmpR op_in_seq (pv 0) (pe_lst (pa_cons pe_str (pa_cons pe_str pa_nil))) (by rfl)) (pss_one (ps_ret (pe_tup (pa_cons pe_int (pa_cons pe_int (pa_cons pe_int pa_nil)))))) pss_nil) (pss_cons (ps_if (pt_cmpR op_in_seq (pv 0) (pe_lst (pa_cons pe_str (pa_cons pe_str (pa_cons pe_str (pa_cons pe_str pa_nil))))) (by rfl)) (pss_one (ps_ret (pe_tup (pa_cons pe_int (pa_cons pe_int (pa_cons pe_int pa_nil)))))) pss_nil) (pss_cons (ps_if (pt_cmpR op_in_seq (pv 0) (pe_lst (pa_cons pe_str (pa_cons pe_str (pa_cons pe_str (pa_cons pe_str (pa_cons pe_str (pa_cons pe_str pa_nil))))))) (by rfl)) (pss_one (ps_ret (pe_tup (pa_cons pe_int (pa_cons pe_int (pa_cons pe_int pa_nil)))))) pss_nil) (pss_cons (ps_if (pt_cmpR op_eq (pv 0) pe_str (nomark _)) (pss_one (ps_ret (pe_tup (pa_cons pe_int (pa_cons pe_int (pa_cons pe_int pa_nil)))))) pss_nil) (pss_cons (ps_if (pt_cmpR op_eq (pv 0) pe_str (nomark _)) (pss_one (ps_ret (pe_tup (pa_cons pe_int (pa_cons pe_int (pa_cons pe_int pa_nil)))))) pss_nil) (pss_cons (ps_if (pt_cmpR op_eq (pv 0) pe_str (nomark _)) (pss_one (ps_ret (pe_tup (pa_cons pe_int (pa_cons pe_int (pa_cons pe_int pa_nil)))))) pss_nil) (pss_one (ps_ret (pe_tup (pa_cons pe_int (pa_cons pe_int (pa_cons pe_int pa_nil))))))))))))), ?_⟩
  walk_at "go"
  intro p1 H1 hp1 e1 h1
  walk_at "go"
  refine M.x_if (fun c1 => ?_) (fun c1 => ?_)
  · walk_at "go"
    intro p H' hp e h
    exact most_end (l := [0, 0, 0]) k (by unfold mostM; rw [if_pos c1]) hp e1 e h
  walk_at "go"
  intro p2 H2 hp2 e2 h2
  walk_at "go"
  refine M.x_if (fun c2 => ?_) (fun c2 => ?_)
  · walk_at "go"
    intro p H' hp e h
    exact most_end (l := [7, 0, 0]) k (by unfold mostM; simp [c1, c2]) hp (e1.trans e2) e h
  walk_at "go"
  intro p3 H3 hp3 e3 h3
  walk_at "go"
  refine M.x_if (fun c3 => ?_) (fun c3 => ?_)
  · walk_at "go"
    intro p H' hp e h
    exact most_end (l := [7, 7, 0]) k (by unfold mostM; simp [c1, c2, c3]) hp ((e1.trans e2).trans e3) e h
  walk_at "go"
  intro p4 H4 hp4 e4 h4
  walk_at "go"
  refine M.x_if (fun c4 => ?_) (fun c4 => ?_)
  · walk_at "go"
    intro p H' hp e h
    exact most_end (l := [7, 7, 7]) k (by unfold mostM; simp [c1, c2, c3, c4]) hp (((e1.trans e2).trans e3).trans e4) e h
  walk_at "go"
  have eA := ((e1.trans e2).trans e3).trans e4
  refine M.x_ifD (fun c5 => ?_) (fun c5 => ?_)
  · walk_at "go"
    intro p H' hp e h
    exact most_end (l := [0, 0, 15]) k (by unfold mostM; simp only [c1, c2, c3, c4, if_pos c5]; simp) hp eA e h
  walk_at "go"
  refine M.x_ifD (fun c6 => ?_) (fun c6 => ?_)
  · walk_at "go"
    intro p H' hp e h
    exact most_end (l := [7, 0, 6]) k (by unfold mostM; simp only [c1, c2, c3, c4, if_neg c5, if_pos c6]; simp) hp eA e h
  walk_at "go"
  refine M.x_ifD (fun c7 => ?_) (fun c7 => ?_)
  · walk_at "go"
    intro p H' hp e h
    exact most_end (l := [7, 0, 4]) k (by unfold mostM; simp only [c1, c2, c3, c4, if_neg c5, if_neg c6, if_pos c7]; simp) hp eA e h
  walk_at "go"
  intro p H' hp e h
  exact most_end (l := [7, 7, 15]) k (by unfold mostM; simp only [c1, c2, c3, c4, if_neg c5, if_neg c6, if_neg c7]; simp) hp eA e h
theorem okH__law_most (T : Tx P K mg) : M.CalH P w K mg base 1 "_law_most" sp__law_most := by
  refine M.calH_mk T.f__law_most T.g__law_most sc__law_most (fun _ _ _ _ _ _ us hl => match us, hl with | [_], _ => rfl) (by rintro vs H Q E ⟨op, rfl, _⟩; rfl) fun cdv A outer s H vs Q E p hc hr h => ?_
  obtain ⟨op, rfl, k⟩ := h
  refine ⟨_, (pss_cons (ps_if (pt_cmpR op_in_seq (pv 0) (pe_lst (pa_cons pe_str (pa_cons pe_str (pa_cons pe_str pa_nil)))) (by rfl)) (pss_one (ps_ret (pe_tup (pa_cons pe_int (pa_cons pe_int (pa_cons pe_int pa_nil)))))) pss_nil) (pss_cons (ps_if (pt_cmpR op_in_seq (pv 0) (pe_lst (pa_cons pe_str (pa_cons pe_str pa_nil))) (by rfl)) (pss_one (ps_ret (pe_tup (pa_cons pe_int (pa_cons pe_int (pa_cons pe_int pa_nil)))))) pss_nil) (pss_cons (ps_if (pt_cmpR op_in_seq (pv 0) (pe_lst (pa_cons pe_str (pa_cons pe_str (pa_cons pe_str (pa_cons pe_str pa_nil))))) (by rfl)) (pss_one (ps_ret (pe_tup (pa_cons pe_int (pa_cons pe_int (pa_cons pe_int pa_nil)))))) pss_nil) (pss_cons (ps_if (pt_cmpR op_in_seq (pv 0) (pe_lst (pa_cons pe_str (pa_cons pe_str (pa_cons pe_str (pa_cons pe_str (pa_cons pe_str (pa_cons pe_str pa_nil))))))) (by rfl)) (pss_one (ps_ret (pe_tup (pa_cons pe_int (pa_cons pe_int (pa_cons pe_int pa_nil)))))) pss_nil) (pss_cons (ps_if (pt_cmpR op_eq (pv 0) pe_str (nomark _)) (pss_one (ps_ret (pe_tup (pa_cons pe_int (pa_cons pe_int (pa_cons pe_int pa_nil)))))) pss_nil) (pss_cons (ps_if (pt_cmpR op_eq (pv 0) pe_str (nomark _)) (pss_one (ps_ret (pe_tup (pa_cons pe_int (pa_cons pe_int (pa_cons pe_int pa_nil)))))) pss_nil) (pss_cons (ps_if (pt_cmpR op_eq (pv 0) pe_str (nomark _)) (pss_one (ps_ret (pe_tup (pa_cons pe_int (pa_cons pe_int (pa_cons pe_int pa_nil)))))) pss_nil) (pss_one (ps_ret (pe_tup (pa_cons pe_int (pa_cons pe_int (pa_cons pe_int pa_nil))))))))))))), ?_⟩
  walk_at "go"
  intro p1 H1 hp1 e1 h1
  walk_at "go"
  refine M.x_if (fun c1 => ?_) (fun c1 => ?_)
  · walk_at "go"
    intro p H' hp e h
    exact most_end (l := [0, 0, 0]) k (by unfold mostM; rw [if_pos c1]) hp e1 e h
  walk_at "go"
  intro p2 H2 hp2 e2 h2
  walk_at "go"
  refine M.x_if (fun c2 => ?_) (fun c2 => ?_)
  · walk_at "go"
    intro p H' hp e h
    exact most_end (l := [7, 0, 0]) k (by unfold mostM; simp [c1, c2]) hp (e1.trans e2) e h
  walk_at "go"
  intro p3 H3 hp3 e3 h3
  walk_at "go"
  refine M.x_if (fun c3 => ?_) (fun c3 => ?_)
  · walk_at "go"
    intro p H' hp e h
    exact most_end (l := [7, 7, 0]) k (by unfold mostM; simp [c1, c2, c3]) hp ((e1.trans e2).trans e3) e h
  walk_at "go"
  intro p4 H4 hp4 e4 h4
  walk_at "go"
  refine M.x_if (fun c4 => ?_) (fun c4 => ?_)
  · walk_at "go"
    intro p H' hp e h
    exact most_end (l := [7, 7, 7]) k (by unfold mostM; simp [c1, c2, c3, c4]) hp (((e1.trans e2).trans e3).trans e4) e h
  walk_at "go"
  have eA := ((e1.trans e2).trans e3).trans e4
  refine M.x_ifD (fun c5 => ?_) (fun c5 => ?_)
  · walk_at "go"
    intro p H' hp e h
    exact most_end (l := [0, 0, 15]) k (by unfold mostM; simp only [c1, c2, c3, c4, if_pos c5]; simp) hp eA e h
  walk_at "go"
  refine M.x_ifD (fun c6 => ?_) (fun c6 => ?_)
  · walk_at "go"
    intro p H' hp e h
    exact most_end (l := [7, 0, 6]) k (by unfold mostM; simp only [c1, c2, c3, c4, if_neg c5, if_pos c6]; simp) hp eA e h
  walk_at "go"
  refine M.x_ifD (fun c7 => ?_) (fun c7 => ?_)
  · walk_at "go"
    intro p H' hp e h
    exact most_end (l := [7, 0, 4]) k (by unfold mostM; simp only [c1, c2, c3, c4, if_neg c5, if_neg c6, if_pos c7]; simp) hp eA e h
  walk_at "go"
  intro p H' hp e h
  exact most_end (l := [7, 7, 15]) k (by unfold mostM; simp only [c1, c2, c3, c4, if_neg c5, if_neg c6, if_neg c7]; simp) hp eA e h
local macro_rules | `(tactic| walk_at "s") => `(tactic| with_reducible refine go__law_ops ?_)
local macro_rules | `(tactic| walk_at "s") => `(tactic| with_reducible refine go__law_most ?_)
def within (fs ms : List Int) (k : Nat) : Prop := 0 ≤ fs.getD k 0 ∧ fs.getD k 0 ≤ ms.getD k 0
instance (fs ms : List Int) (k : Nat) : Decidable (within fs ms k) := inferInstanceAs (Decidable (_ ∧ _))
def lawFits (op : Str) (fs : List Int) : Bool := decide (op ∈ opsl ∧ ∀ k : Fin 3, within fs (mostM op) k)
def sp__law_fits : Sp := fun vs H Q _ => ∃ (op : Str) (a : Addr) (fs : List Int), vs = [.str op, .ref a] ∧ fs.length = 3 ∧ H a = some (.lst (fs.map V.int)) ∧ ∀ H', Same H H' → Q (.bl (lawFits op fs)) H'
abbrev M.N__law_fits : List Str := ["op", "fields", "most", "k"]
theorem sc__law_fits : FnScope M.N__law_fits ["op", "fields"] (defScope s__law_fits) := ⟨rfl, rfl, rfl, by decide +kernel, rfl, by decide +kernel, by decide +kernel⟩
theorem ok__law_fits (T : Tx P K mg) : C8.Cal P w K mg base 2 "_law_fits" sp__law_fits [] := by
  refine M.cal_mk T.f__law_fits T.g__law_fits sc__law_fits (fun _ _ _ _ _ _ us hl => match us, hl with | [_, _], _ => rfl) (by rintro vs H Q E ⟨op, a, fs, rfl, _⟩; rfl) fun cdv A outer s H vs Q E hr h => ?_
  obtain ⟨op, a, fs, rfl, hl, ha, k⟩ := h
  refine ⟨_, (pss_cons (ps_if (pt_cmpR op_notIn_seq (pv 0) (M.pe_c0 (ok__law_ops T) hr (by decide) (by rfl)) (by rfl)) (pss_one (ps_ret pe_bl)) pss_nil) (pss_cons (ps_set (i := 2) sc__law_fits.nd rfl (Or.inl rfl) (C8.pe_c (ok__law_most T) hr (by decide) (by rfl) (pa_cons (pv 0) pa_nil))) (pss_cons (ps_for PassesOwn.never rfl (pi_range1 (by rfl) T.b_range (pa_cons pe_int pa_nil)) (pg_name (i := 3) sc__law_fits.nd rfl (Or.inl rfl)) (pss_one (ps_if (pt_not (pt_chain op_le op_le pe_int (pe_ix ix_list (pv 1) (pv 3) (fun _ _ => rfl)) (pe_ix ix_tup (pv 2) (pv 3) (fun _ _ => rfl)))) (pss_one (ps_ret pe_bl)) pss_nil))) (pss_one (ps_ret pe_bl))))), ?_⟩
  walk_at "go"
  intro p1 H1 hp1 e1 h1
  walk_at "go"
  rw [M.inV_strs]
  walk_at "go"
  refine M.x_ifD (fun c1 => ?_) (fun c1 => ?_)
  · walk_at "go"
    intro p2 H2 hp2 e2 h2
    walk_at "go"
    have ha2 : H2 a = some (.lst (fs.map V.int)) := e2 _ _ (e1 _ _ ha)
    refine M.x_for1 (n := 3) (fun Q q => by walk_at "go"; exact q) ⟨by decide, by decide⟩ (fun i σ' H' => ∃ v, σ' = [some (.str op), some (.ref a), some (.ref p2), v] ∧ H' = H2 ∧ ∀ j, j < i → within fs (mostM op) j) ⟨_, rfl, rfl, fun j hj => absurd hj (Nat.not_lt_zero _)⟩ ?_ ?_
    · rintro i σ' H' hi ⟨v, rfl, rfl, hw⟩
      have hm := most_len op
      walk_at "go"
      rw [Int.toNat_natCast]
      refine M.x_ifD (fun c2 => ?_) (fun c2 => ?_)
      · walk_at "go"
        rw [Int.toNat_natCast]
        refine M.x_ifD (fun c3 => ?_) (fun c3 => ?_)
        · walk_at "go"
          exact ⟨_, rfl, rfl, fun j hj => by
            rcases Nat.lt_succ_iff_lt_or_eq.mp hj with q | rfl
            · exact hw j q
            · exact ⟨c2, c3⟩⟩
        · walk_at "go"
          refine M.bEq (k _ (e1.trans e2)) ?_
          exact decide_eq_false (fun q => c3 (q.2 ⟨i, by omega⟩).2)
      · walk_at "go"
        refine M.bEq (k _ (e1.trans e2)) ?_
        exact decide_eq_false (fun q => c2 (q.2 ⟨i, by omega⟩).1)
    · rintro σ' H' ⟨v, rfl, rfl, hw⟩
      walk_at "go"
      refine M.bEq (k _ (e1.trans e2)) ?_
      exact decide_eq_true ⟨c1, fun j => hw j j.2⟩
  · walk_at "go"
    refine M.bEq (k _ e1) ?_
    exact decide_eq_false (fun q => c1 q.1)
theorem okH__law_fits (T : Tx P K mg) : M.CalH P w K mg base 2 "_law_fits" sp__law_fits := by
  refine M.calH_mk T.f__law_fits T.g__law_fits sc__law_fits (fun _ _ _ _ _ _ us hl => match us, hl with | [_, _], _ => rfl) (by rintro vs H Q E ⟨op, a, fs, rfl, _⟩; rfl) fun cdv A outer s H vs Q E p hc hr h => ?_
  obtain ⟨op, a, fs, rfl, hl, ha, k⟩ := h
  refine ⟨_, (pss_cons (ps_if (pt_cmpR op_notIn_seq (pv 0) (M.pe_cH0 (okH__law_ops T) hc hr (by decide) (by rfl)) (by rfl)) (pss_one (ps_ret pe_bl)) pss_nil) (pss_cons (ps_set (i := 2) sc__law_fits.nd rfl (Or.inl rfl) (M.pe_cH (okH__law_most T) hc hr (by decide) (by rfl) (pa_cons (pv 0) pa_nil))) (pss_cons (L2H.ps_forH PassesOwn.never hc (L2H.pi_range1H (by rfl) T.b_range (pa_cons pe_int pa_nil)) (pg_name (i := 3) sc__law_fits.nd rfl (Or.inl rfl)) (pss_one (ps_if (pt_not (pt_chain op_le op_le pe_int (pe_ix ix_list (pv 1) (pv 3) (fun _ _ => rfl)) (pe_ix ix_tup (pv 2) (pv 3) (fun _ _ => rfl)))) (pss_one (ps_ret pe_bl)) pss_nil))) (pss_one (ps_ret pe_bl))))), ?_⟩
  walk_at "go"
  intro p1 H1 hp1 e1 h1
  walk_at "go"
  rw [M.inV_strs]
  walk_at "go"
  refine M.x_ifD (fun c1 => ?_) (fun c1 => ?_)
  · walk_at "go"
    intro p2 H2 hp2 e2 h2
    walk_at "go"
    have ha2 : H2 a = some (.lst (fs.map V.int)) := e2 _ _ (e1 _ _ ha)
    refine M.x_for1 (n := 3) (fun Q q => by walk_at "go"; exact q) ⟨by decide, by decide⟩ (fun i σ' H' => ∃ v, σ' = [some (.str op), some (.ref a), some (.ref p2), v] ∧ H' = H2 ∧ ∀ j, j < i → within fs (mostM op) j) ⟨_, rfl, rfl, fun j hj => absurd hj (Nat.not_lt_zero _)⟩ ?_ ?_
    · rintro i σ' H' hi ⟨v, rfl, rfl, hw⟩
      have hm := most_len op
      walk_at "go"
      rw [Int.toNat_natCast]
      refine M.x_ifD (fun c2 => ?_) (fun c2 => ?_)
      · walk_at "go"
        rw [Int.toNat_natCast]
        refine M.x_ifD (fun c3 => ?_) (fun c3 => ?_)
        · walk_at "go"
          exact ⟨_, rfl, rfl, fun j hj => by
            rcases Nat.lt_succ_iff_lt_or_eq.mp hj with q | rfl
            · exact hw j q
            · exact ⟨c2, c3⟩⟩
        · walk_at "go"
          refine M.bEq (k _ (e1.trans e2)) ?_
          exact decide_eq_false (fun q => c3 (q.2 ⟨i, by omega⟩).2)
      · walk_at "go"
        refine M.bEq (k _ (e1.trans e2)) ?_
        exact decide_eq_false (fun q => c2 (q.2 ⟨i, by omega⟩).1)
    · rintro σ' H' ⟨v, rfl, rfl, hw⟩
      walk_at "go"
      refine M.bEq (k _ (e1.trans e2)) ?_
      exact decide_eq_true ⟨c1, fun j => hw j j.2⟩
  · walk_at "go"
    refine M.bEq (k _ e1) ?_
    exact decide_eq_false (fun q => c1 q.1)
def sp__law_parts : Sp := fun vs H Q _ => ∃ (t : Addr) (z op : Str) (a b c : Int) (q : Addr) (f0 f1 f2 : Int), vs = [.ref t, .str op, .ref q] ∧ H t = some (.tup [.str z, .int a, .int b, .int c]) ∧ H q = some (.lst [.int f0, .int f1, .int f2]) ∧
  ∀ b' : Bool, (b' = true ↔ z = op ∧ a = f0 ∧ b = f1 ∧ c = f2) → Q (.bl b') H
theorem go__law_is2 {a b : Int} {H : Hp} {Q : VK} {E : XK} (k : Q (.bl (decide (a = b))) H) : sp__law_is [.int a, .int b] H Q E := ⟨a, b, rfl, k⟩
local macro_rules | `(tactic| walk_at "s") => `(tactic| with_reducible refine go__law_is ?_)
abbrev M.N__law_parts : List Str := ["told", "op", "fields"]
theorem sc__law_parts : FnScope M.N__law_parts ["told", "op", "fields"] (defScope s__law_parts) := ⟨rfl, rfl, rfl, by decide +kernel, rfl, by decide +kernel, by decide +kernel⟩
theorem ok__law_parts (T : Tx P K mg) : C8.Cal P w K mg base 2 "_law_parts" sp__law_parts [] := by
  refine M.cal_mk T.f__law_parts T.g__law_parts sc__law_parts (fun _ _ _ _ _ _ us hl => match us, hl with | [_, _, _], _ => rfl) (by rintro vs H Q E ⟨t, z, op, a, b, c, q, f0, f1, f2, rfl, _⟩; rfl) fun cdv A outer s H vs Q E hr h => ?_
  obtain ⟨t, z, op, a, b, c, q, f0, f1, f2, rfl, ht, hq, k⟩ := h
  refine ⟨_, (pss_cons (ps_if (PW.pt (pw_or (pt_not (pt_val (pe_callB M.call_isi (by rfl) T.b_isinstance (by decide +kernel) (pa_cons (pv 0) (pa_cons (pe_bltn (v := V.ty "tuple") (u := Value.type "tuple") (by rfl) T.b_tuple (by decide +kernel) rfl) pa_nil))))) (pw_or (pt_cmpR op_ne (pe_callB M.call_len (by rfl) T.b_len (by decide +kernel) (pa_cons (pv 0) pa_nil)) pe_int (nomark _)) (pw_or (pt_not (pt_val (pe_callB M.call_isi (by rfl) T.b_isinstance (by decide +kernel) (pa_cons (pe_ix ix_tup (pv 0) pe_int (fun _ _ => rfl)) (pa_cons (pe_bltn (v := V.ty "str") (u := Value.type "str") (by rfl) T.b_str (by decide +kernel) rfl) pa_nil))))) (pw_or1 (pt_cmpR op_ne (pe_ix ix_tup (pv 0) pe_int (fun _ _ => rfl)) (pv 1) (nomark _))))))) (pss_one (ps_ret pe_bl)) pss_nil) (pss_one (ps_ret (pe_and (C8.pe_c (ok__law_is T) hr (by decide) (by rfl) (pa_cons (pe_ix ix_tup (pv 0) pe_int (fun _ _ => rfl)) (pa_cons (pe_ix ix_list (pv 2) pe_int (fun _ _ => rfl)) pa_nil))) (pe_and (C8.pe_c (ok__law_is T) hr (by decide) (by rfl) (pa_cons (pe_ix ix_tup (pv 0) pe_int (fun _ _ => rfl)) (pa_cons (pe_ix ix_list (pv 2) pe_int (fun _ _ => rfl)) pa_nil))) (pe_one (C8.pe_c (ok__law_is T) hr (by decide) (by rfl) (pa_cons (pe_ix ix_tup (pv 0) pe_int (fun _ _ => rfl)) (pa_cons (pe_ix ix_list (pv 2) pe_int (fun _ _ => rfl)) pa_nil))))))))), ?_⟩
  walk_at "go"
  refine M.x_ifFD (by simp) ?_
  walk_at "go"
  refine M.x_ifD (fun h1 => ?_) (fun h1 => ?_)
  · walk_at "go"
    exact k false (by simp [h1])
  · have h1 : z = op := Classical.not_not.mp h1
    walk_at "go"
    refine M.x_ifD (fun h2 => ?_) (fun h2 => ?_)
    · walk_at "go"
      refine M.x_ifD (fun h3 => ?_) (fun h3 => ?_)
      · walk_at "go"
        exact k _ (by simp [h1, h2, h3])
      · walk_at "go"
        exact k _ (by simp [h1, h2, h3])
    · walk_at "go"
      exact k _ (by simp [h1, h2])
end

section
variable {P : Program} {w : World} {K : PySem.W.Frag} {mg : Str → Option Value} {base : Heap}
theorem go__law_fits {op : Str} {a : Addr} {fs : List Int} {H : Hp} {Q : VK} {E : XK} (hl : fs.length = 3) (ha : H a = some (.lst (fs.map V.int))) (k : ∀ H', Same H H' → Q (.bl (lawFits op fs)) H') : sp__law_fits [.str op, .ref a] H Q E := ⟨op, a, fs, rfl, hl, ha, k⟩
/-! ### the table's law -/
theorem fits_law {op : Str} (h : op ∈ opsl) (a b c : Int) : fitsM op a b c = lawFits op [a, b, c] := by
  rw [Bool.eq_iff_iff]
  have e : lawFits op [a, b, c] = true ↔ within [a, b, c] (mostM op) 0 ∧ within [a, b, c] (mostM op) 1 ∧ within [a, b, c] (mostM op) 2 := by
    unfold lawFits
    rw [decide_eq_true_iff]
    constructor
    · rintro ⟨_, q⟩
      exact ⟨q 0, q 1, q 2⟩
    · rintro ⟨q0, q1, q2⟩
      refine ⟨h, fun k => ?_⟩
      match k with
      | 0 => exact q0
      | 1 => exact q1
      | 2 => exact q2
  rw [e]
  unfold within
  simp only [opsl, List.mem_cons, List.not_mem_nil, or_false] at h
  rcases h with rfl | rfl | rfl | rfl | rfl | rfl | rfl | rfl | rfl | rfl | rfl | rfl | rfl | rfl | rfl | rfl | rfl | rfl | rfl | rfl | rfl | rfl | rfl | rfl | rfl | rfl
  all_goals
    simp +decide [fitsM, mostM, inV, eqV, List.getD]
    try omega
theorem idx_of : ∀ i : Fin 26, opsl.idxOf (opsl.getD i.val "") = i.val := by decide +kernel
theorem mem_of {i : Nat} (h : i < 26) : opsl.getD i "" ∈ opsl := by
  have hl : i < opsl.length := h
  rw [List.getD_eq_getElem?_getD, List.getElem?_eq_getElem hl]
  exact List.getElem_mem hl
theorem opOf_mem {x : Int} (h : 0 ≤ x ∧ x < 26624) : opOf x ∈ opsl := mem_of (by omega)
theorem opOf_idx {x : Int} (h : 0 ≤ x ∧ x < 26624) : (opsl.idxOf (opOf x) : Int) = x / 1024 := by
  have := idx_of ⟨(x / 1024).toNat, by omega⟩
  unfold opOf
  rw [this]
  show ((x / 1024).toNat : Int) = _
  omega
theorem enc_dec {x : Int} (h : 0 ≤ x ∧ x < 26624) : encM (opOf x) (x / 128 % 8) (x / 16 % 8) (x % 16) = x := by
  unfold encM
  rw [opOf_idx h]
  omega
theorem dec_enc {op : Str} {a b c : Int} (h : okM op a b c) : (0 ≤ encM op a b c ∧ encM op a b c < 26624) ∧ opOf (encM op a b c) = op ∧ encM op a b c / 128 % 8 = a ∧ encM op a b c / 16 % 8 = b ∧ encM op a b c % 16 = c := by
  obtain ⟨h1, h2⟩ := h
  have hi := ops_idx h1
  have hb := fits_bounds h2
  unfold encM opOf
  refine ⟨by omega, ?_, by omega, by omega, by omega⟩
  have e : (((opsl.idxOf op : Int) * 1024 + a * 128 + b * 16 + c) / 1024).toNat = opsl.idxOf op := by omega
  rw [e, List.getD_eq_getElem?_getD, (M.first_idx h1).1]
  rfl
end

end K01
namespace K01
open PySem PySem.Spec PyProof.Rows L2
local macro_rules | `(tactic| walk_at "s") => `(tactic| first
  | ((with_reducible refine' M.x_var ?xv ?_); (case xv => exact rfl))
  | with_reducible refine M.x_c ?_
  | with_reducible refine M.x_op ?_
  | with_reducible refine M.x_seq ?_
  | with_reducible refine M.x_asg ?_
  | with_reducible refine M.x_gname ?_
  | with_reducible refine M.x_rI0 ?_
  | ((with_reducible refine' M.x_rI ?xc ?_); (case xc => walk_at "side"))
  | with_reducible refine M.x_call ?_
  | with_reducible refine M.x_callB ?_
  | with_reducible refine M.x_cons ?_
  | with_reducible refine M.x_nil ?_
  | with_reducible refine M.x_int ?_
  | with_reducible refine M.x_intB ?_
  | with_reducible refine M.x_ifS ?_
  | with_reducible refine M.x_test ?_
  | with_reducible refine M.x_tB ?_
  | with_reducible refine M.x_isB ?_
  | with_reducible refine M.x_ret ?_
  | with_reducible refine M.x_retN ?_
  | with_reducible refine M.x_next ?_
  | with_reducible refine M.x_brk ?_
  | with_reducible refine M.x_cont ?_
  | with_reducible refine M.x_drop ?_
  | with_reducible refine M.x_eqI ?_
  | with_reducible refine M.x_neI ?_
  | with_reducible refine M.x_eqS ?_
  | with_reducible refine M.x_neS ?_
  | with_reducible refine M.x_eqB ?_
  | with_reducible refine M.x_neB ?_
  | with_reducible refine M.x_ifT ?_
  | with_reducible refine M.x_ifF ?_
  | with_reducible refine M.x_and ?_
  | with_reducible refine M.x_or ?_
  | with_reducible refine M.x_not ?_
  | with_reducible refine M.x_ifNB ?_
  | with_reducible refine M.x_andV ?_
  | with_reducible refine M.x_orV ?_
  | with_reducible refine M.x_notV ?_
  | with_reducible refine M.x_ifE ?_
  | with_reducible refine M.x_chain ?_
  | with_reducible refine M.x_isN ?_
  | with_reducible refine M.x_notN ?_
  | with_reducible refine M.x_un ?_
  | with_reducible refine M.x_rU ?_
  | with_reducible refine M.x_max2 ?_
  | with_reducible refine M.x_min2 ?_
  | with_reducible refine M.x_isiII ?_
  | with_reducible refine M.x_isiIB ?_
  | with_reducible refine M.x_isiBB ?_
  | with_reducible refine M.x_isiSS ?_
  | ((with_reducible refine' M.x_ifTD ?xp ?_); (case xp => first | exact rfl | decide | omega))
  | ((with_reducible refine' M.x_ifFD ?xp ?_); (case xp => first | exact rfl | decide | omega))
  | with_reducible refine M.x_lst' ?_
  | with_reducible refine M.x_tup' ?_)
local macro_rules | `(tactic| walk_at "side") => `(tactic| first
  | decide
  | (show (0 : Int) < _; decide)
  | (show (0 : Int) < _; omega)
  | (show (0 : Int) ≤ _; omega)
  | (exact ⟨by decide, by decide⟩)
  | (exact ⟨by omega, by omega⟩)
  | (exact Or.inr ⟨by decide, by decide⟩)
  | (exact Or.inl ⟨by decide, by decide⟩)
  | (exact Or.inr ⟨by omega, by omega⟩)
  | (exact Or.inl ⟨by omega, by omega⟩)
  | (exact ⟨by decide, by decide, by decide⟩)
  | (exact ⟨by omega, by omega, by omega⟩))
local macro_rules | `(tactic| walk_at "go") => `(tactic| (repeat walk_at "s"))
local macro_rules | `(tactic| walk_at "hp") => `(tactic| first
  | assumption
  | exact upd_same
  | ((refine' M.same_hp ?xe ?xq); (case xe => assumption); (case xq => walk_at "hp")))
local macro_rules | `(tactic| walk_at "seq") => `(tactic| first
  | assumption
  | exact SqL.of (by assumption)
  | ((refine' Same.seq ?xe ?xq); (case xe => assumption); (case xq => walk_at "seq")))
local macro_rules | `(tactic| walk_at "sqt") => `(tactic| first
  | assumption
  | exact SqT.of (by assumption)
  | ((refine' M.Same.st ?xe ?xq); (case xe => assumption); (case xq => walk_at "sqt")))
local macro_rules | `(tactic| walk_at "at") => `(tactic| first
  | exact rfl
  | exact M.atI_ints (by omega) (by omega)
  | exact M.atI_ints (by omega) (by simp; omega))
local macro_rules | `(tactic| walk_at "s") => `(tactic| first
  | with_reducible refine M.x_truV ?_
  | ((with_reducible refine' M.x_truL ?xh ?_); (case xh => walk_at "seq"))
  | with_reducible refine M.x_truI ?_
  | with_reducible refine M.x_isBl ?_
  | with_reducible refine M.x_notBl ?_
  | ((with_reducible refine' M.x_ixL ?xh ?xa ?_); (case xh => walk_at "seq"); (case xa => walk_at "at"))
  | ((with_reducible refine' M.x_ixT ?xh ?xa ?_); (case xh => walk_at "sqt"); (case xa => walk_at "at"))
  | ((with_reducible refine' M.x_lenL ?xh ?_); (case xh => walk_at "seq"))
  | ((with_reducible refine' M.x_lenT ?xh ?_); (case xh => walk_at "sqt"))
  | ((with_reducible refine' M.x_listL ?xh ?_); (case xh => walk_at "seq"))
  | ((with_reducible refine' M.x_newL ?xz ?_); (case xz => exact M.sl4 (by first | decide | simp)))
  | ((with_reducible refine' M.x_newT ?xz ?_); (case xz => exact M.sl4 (by first | decide | simp)))
  | ((with_reducible refine' M.x_cat ?xh ?xi ?xz ?_); (case xh => walk_at "hp"); (case xi => walk_at "hp"); (case xz => exact M.sl4 (by first | decide | simp))))

local macro_rules | `(tactic| walk_at "s") => `(tactic| first
  | ((with_reducible refine' M.x_inL ?xh ?xf ?xg ?_); (case xh => walk_at "seq"); (case xf => exact rfl); (case xg => first | exact rfl | exact M.flat_strsV _))
  | ((with_reducible refine' M.x_inT ?xh ?xf ?xg ?_); (case xh => walk_at "sqt"); (case xf => exact rfl); (case xg => first | exact rfl | exact M.flat_strsV _))
  | ((with_reducible refine' M.x_notInL ?xh ?xf ?xg ?_); (case xh => walk_at "seq"); (case xf => exact rfl); (case xg => first | exact rfl | exact M.flat_strsV _))
  | ((with_reducible refine' M.x_notInT ?xh ?xf ?xg ?_); (case xh => walk_at "sqt"); (case xf => exact rfl); (case xg => first | exact rfl | exact M.flat_strsV _))
  | with_reducible refine M.x_bm ?_
  | ((with_reducible refine' M.x_tyL ?xh ?_); (case xh => walk_at "seq"))
  | ((with_reducible refine' M.x_tyK ?xh ?_); (case xh => walk_at "tyk"))
  | with_reducible refine M.x_m1 ?_
  | with_reducible refine M.x_txt ?_
  | ((with_reducible refine' M.x_split ?xh ?xi ?_); (case xh => decide +kernel); (case xi => decide +kernel))
  | ((with_reducible refine' M.x_addZ ?xh ?_); (case xh => decide +kernel))
  | ((with_reducible refine' M.x_tupL ?xh ?_); (case xh => walk_at "seq"))
  | ((with_reducible refine' M.x_isiTT ?xh ?_); (case xh => walk_at "hp"))
  | with_reducible refine M.x_rz ?_
  | with_reducible refine M.x_mkE ?_
  | with_reducible refine M.x_tryAs ?_
  | with_reducible refine M.x_callS ?_
  | with_reducible refine M.x_xf ?_)
local macro_rules | `(tactic| walk_at "s") => `(tactic| first
  | with_reducible refine M.x_isN0 ?_
  | with_reducible refine M.x_isNr ?_
  | with_reducible refine M.x_isNi ?_
  | with_reducible refine M.x_isNs ?_
  | with_reducible refine M.x_notN0 ?_
  | with_reducible refine M.x_notNr ?_
  | with_reducible refine M.x_notNi ?_
  | with_reducible refine M.x_notNs ?_)
local macro_rules | `(tactic| walk_at "split") => `(tactic| (walk_at "go"; first | done | ((refine M.x_ifD (fun _ => ?_) (fun _ => ?_)) <;> walk_at "split") | ((refine M.x_if (fun _ => ?_) (fun _ => ?_)) <;> walk_at "split") | skip))
local macro_rules | `(tactic| walk_at "sqt") => `(tactic| first
  | exact Tx.q_OPS (by assumption) _
  | exact Tx.q_KERNEL_ONLY (by assumption) _
  | exact Tx.q_NONE (by assumption) _
  | exact Tx.q_ONE (by assumption) _
  | exact Tx.q_TWO (by assumption) _
  | exact Tx.q_THREE (by assumption) _)
local macro_rules | `(tactic| walk_at "tyk") => `(tactic| exact Tx.o_OPS (by assumption))

local macro_rules | `(tactic| walk_at "s") => `(tactic| with_reducible refine go_fits ?_)
local macro_rules | `(tactic| walk_at "s") => `(tactic| with_reducible refine go_size_of ?_)
local macro_rules | `(tactic| walk_at "s") => `(tactic| with_reducible refine go__law_number ?_)
local macro_rules | `(tactic| walk_at "s") => `(tactic| with_reducible refine go__law_ops ?_)
local macro_rules | `(tactic| walk_at "s") => `(tactic| with_reducible refine go__law_most ?_)
local macro_rules | `(tactic| walk_at "s") => `(tactic| with_reducible refine go__law_is ?_)
section
variable {P : Program} {w : World} {K : PySem.W.Frag} {mg : Str → Option Value} {base : Heap}
def sp__law_decoded : Sp := fun vs H Q _ => ∃ x : Int, vs = [.int x] ∧ (0 ≤ x ∧ x < 65536) ∧ ∀ H', Same H H' → Q (.bl true) H'
theorem go__law_decoded {x : Int} {H : Hp} {Q : VK} {E : XK} (h : 0 ≤ x ∧ x < 65536) (k : ∀ H', Same H H' → Q (.bl true) H') : sp__law_decoded [.int x] H Q E := ⟨x, rfl, h, k⟩
theorem go_decode {x : Int} {H : Hp} {Q : VK} {E : XK} (h : 0 ≤ x ∧ x < 65536) (k1 : ¬ decOk x → Q .non H) (k2 : decOk x → ∀ p H', H p = none → Same H H' → H' p = some (.tup (decV x)) → Q (.ref p) H') : sp_decode [.int x] H Q E := ⟨x, rfl, h, k1, k2⟩
theorem go_encode {C : Addr} {op : Str} {a b c : Int} {H : Hp} {Q : VK} {E : XK} (h1 : op.length ≤ 1000) (h2 : a.natAbs < 1000000000) (h3 : b.natAbs < 1000000000) (h4 : c.natAbs < 1000000000)
    (k1 : okM op a b c → Q (.int (encM op a b c)) H) (k2 : ¬ okM op a b c → ∀ d, H d = none → E (.ref C) (some d) (upd H d (.xd [("c", .int c), ("b", .int b), ("a", .int a), ("op", .str op)]))) : sp_encode C [.str op, .int a, .int b, .int c] H Q E := ⟨op, a, b, c, rfl, h1, h2, h3, h4, k1, k2⟩
theorem ops_short {op : Str} (h : op ∈ opsl) : op.length ≤ 1000 := (by decide +kernel : ∀ z ∈ opsl, z.length ≤ 1000) op h
abbrev M.N__law_decoded : List Str := ["word", "told", "ops", "fields", "op"]
theorem sc__law_decoded : FnScope M.N__law_decoded ["word"] (defScope s__law_decoded) := ⟨rfl, rfl, rfl, by decide +kernel, rfl, by decide +kernel, by decide +kernel⟩
theorem min_get {x : Int} (h : 0 ≤ x ∧ x < 65536) : atI (opsl.map V.str) (if x / 1024 < 25 then x / 1024 else 25) = some (.str (opsl.getD (if x / 1024 < 25 then x / 1024 else 25).toNat "")) := by
  refine M.atI_strs (by split <;> omega) ?_
  show _ < ((26 : Nat) : Int)
  split <;> omega
theorem ok__law_decoded (T : Tx P K mg) : C8.Cal P w K mg base 5 "_law_decoded" sp__law_decoded [] := by
  refine M.cal_mk T.f__law_decoded T.g__law_decoded sc__law_decoded (fun _ _ _ _ _ _ us hl => match us, hl with | [_], _ => rfl) (by rintro vs H Q E ⟨x, rfl, _⟩; rfl) fun cdv A outer s H vs Q E hr h => ?_
  obtain ⟨x, rfl, hx, k⟩ := h
  refine ⟨_, (pss_cons (ps_set (i := 1) sc__law_decoded.nd rfl (Or.inl rfl) (C8.pe_c (ok_decode T) hr (by decide) (by rfl) (pa_cons (pv 0) pa_nil))) (pss_cons (ps_set (i := 2) sc__law_decoded.nd rfl (Or.inl rfl) (M.pe_c0 (ok__law_ops T) hr (by decide) (by rfl))) (pss_cons (ps_set (i := 3) sc__law_decoded.nd rfl (Or.inl rfl) (pe_lst (pa_cons (pe_op op_mod (pe_op op_fdiv (pv 0) pe_int) pe_int) (pa_cons (pe_op op_mod (pe_op op_fdiv (pv 0) pe_int) pe_int) (pa_cons (pe_op op_mod (pe_callTy M.call_int (by rfl) T.b_int (by decide +kernel) (pa_cons (pv 0) pa_nil)) pe_int) pa_nil))))) (pss_cons (ps_if (PW.pt (pw_or (pt_cmpR op_gt (pe_op op_fdiv (pv 0) pe_int) pe_int (nomark _)) (pw_or1 (pt_not (pt_val (C8.pe_c (ok__law_fits T) hr (by decide) (by rfl) (pa_cons (pe_ix ix_list (pv 2) (pe_callB (M.call_min2 rfl) (by rfl) T.b_min (by decide +kernel) (pa_cons pe_int (pa_cons (pe_op op_fdiv (pv 0) pe_int) pa_nil))) (fun _ _ => rfl)) (pa_cons (pv 3) pa_nil)))))))) (pss_one (ps_ret (pe_cmpR op_isN1 (pv 1) pe_non (nomark _)))) pss_nil) (pss_cons (ps_set (i := 4) sc__law_decoded.nd rfl (Or.inl rfl) (pe_ix ix_list (pv 2) (pe_op op_fdiv (pv 0) pe_int) (fun _ _ => rfl))) (pss_one (ps_ret (pe_and (pe_cmpR op_notN1 (pv 1) pe_non (nomark _)) (pe_and (C8.pe_c (ok__law_parts T) hr (by decide) (by rfl) (pa_cons (pv 1) (pa_cons (pv 4) (pa_cons (pv 3) pa_nil)))) (pe_one (C8.pe_c (ok__law_is T) hr (by decide) (by rfl) (pa_cons (M.pe_cX (ok_encode T) hr (by decide) (by rfl) M.takesN0 (pa_cons (pv 4) (pa_cons (pe_ix ix_list (pv 3) pe_int (fun _ _ => rfl)) (pa_cons (pe_ix ix_list (pv 3) pe_int (fun _ _ => rfl)) (pa_cons (pe_ix ix_list (pv 3) pe_int (fun _ _ => rfl)) pa_nil))))) (pa_cons (pv 0) pa_nil))))))))))))), ?_⟩
  walk_at "go"
  refine go_decode hx (fun nd => ?_) (fun od p0 H0 hp0 e0 h0 => ?_)
  · walk_at "go"
    intro p1 H1 hp1 e1 h1
    walk_at "go"
    intro p2 H2 hp2 e2 h2
    walk_at "go"
    have h1' : H2 p1 = some (.lst (opsl.map V.str)) := e2 _ _ h1
    refine M.x_ifD (fun c1 => ?_) (fun c1 => ?_)
    · walk_at "go"
      exact k _ (e1.trans e2)
    · walk_at "go"
      refine M.x_ixL (SqL.of h1') (min_get hx) ?_
      walk_at "go"
      refine go__law_fits (fs := [x / 128 % 8, x / 16 % 8, x % 16]) rfl (by walk_at "hp") fun H3 e3 => ?_
      have lf : lawFits (opsl.getD (if x / 1024 < 25 then x / 1024 else 25).toNat "") [x / 128 % 8, x / 16 % 8, x % 16] = false := by
        have hb : x / 1024 ≤ 25 := by omega
        have e : (if x / 1024 < 25 then x / 1024 else 25) = x / 1024 := by split <;> omega
        rw [e]
        have hm := opOf_mem (x := x) ⟨hx.1, by omega⟩
        have q := fits_law hm (x / 128 % 8) (x / 16 % 8) (x % 16)
        unfold opOf at q
        rw [← q]
        have z : ¬ (fitsM (opOf x) (x / 128 % 8) (x / 16 % 8) (x % 16) = true) := fun z => nd ⟨by omega, z⟩
        exact Bool.eq_false_iff.mpr z
      rw [lf]
      walk_at "go"
      exact k _ ((e1.trans e2).trans e3)
  · have hx2 : 0 ≤ x ∧ x < 26624 := ⟨hx.1, od.1⟩
    have hm := opOf_mem hx2
    walk_at "go"
    intro p1 H1 hp1 e1 h1
    walk_at "go"
    intro p2 H2 hp2 e2 h2
    walk_at "go"
    have h1' : H2 p1 = some (.lst (opsl.map V.str)) := e2 _ _ h1
    refine M.x_ixL (SqL.of h1') (min_get hx) ?_
    walk_at "go"
    refine go__law_fits (fs := [x / 128 % 8, x / 16 % 8, x % 16]) rfl (by walk_at "hp") fun H3 e3 => ?_
    have hb : x / 1024 ≤ 25 := by omega
    have e : (if x / 1024 < 25 then x / 1024 else 25) = x / 1024 := by split <;> omega
    have lf : lawFits (opsl.getD (if x / 1024 < 25 then x / 1024 else 25).toNat "") [x / 128 % 8, x / 16 % 8, x % 16] = true := by
      rw [e]
      have q := fits_law hm (x / 128 % 8) (x / 16 % 8) (x % 16)
      unfold opOf at q
      rw [← q]
      exact od.2
    rw [lf]
    walk_at "go"
    have h1'' : H3 p1 = some (.lst (opsl.map V.str)) := e3 _ _ h1'
    refine M.x_ixL (SqL.of h1'') (M.atI_strs (l := opsl) (by omega) (by show _ < ((26 : Nat) : Int); omega)) ?_
    walk_at "go"
    have h0' : H3 p0 = some (.tup (decV x)) := e3 _ _ (e2 _ _ (e1 _ _ h0))
    have h2' : H3 p2 = some (.lst [.int (x / 128 % 8), .int (x / 16 % 8), .int (x % 16)]) := e3 _ _ h2
    refine ⟨p0, opOf x, opOf x, _, _, _, p2, _, _, _, rfl, h0', h2', fun b' hb' => ?_⟩
    obtain rfl : b' = true := hb'.mpr ⟨rfl, rfl, rfl, rfl⟩
    walk_at "go"
    refine go_encode (op := opOf x) (ops_short hm) (by omega) (by omega) (by omega) (fun _ => ?_) (fun nq => absurd ⟨hm, od.2⟩ nq)
    walk_at "go"
    rw [enc_dec hx2]
    refine M.bEq (k _ (((e0.trans e1).trans e2).trans e3)) (by simp)
/-! ### encode, decoded again -/
def sp__law_encoded : Sp := fun vs H Q _ => ∃ (op : Str) (q : Addr) (a b c : Int), vs = [.str op, .ref q] ∧ op.length ≤ 1000 ∧ H q = some (.lst [.int a, .int b, .int c]) ∧ a.natAbs < 1000 ∧ b.natAbs < 1000 ∧ c.natAbs < 1000 ∧ ∀ H', Same H H' → Q (.bl true) H'
theorem fits_ok {op : Str} {a b c : Int} : lawFits op [a, b, c] = decide (okM op a b c) := by
  by_cases h : op ∈ opsl
  · rw [← fits_law h]
    unfold okM
    simp [h]
  · rw [decide_eq_false (fun q => h q.1)]
    exact decide_eq_false (fun q => h q.1)
abbrev M.N__law_encoded : List Str := ["op", "fields", "word", "e", "due", "told"]
theorem sc__law_encoded : FnScope M.N__law_encoded ["op", "fields"] (defScope s__law_encoded) := ⟨rfl, rfl, rfl, by decide +kernel, rfl, by decide +kernel, by decide +kernel⟩
theorem ok__law_encoded (T : Tx P K mg) : C8.Cal P w K mg base 5 "_law_encoded" sp__law_encoded [] := by
  refine M.cal_mk T.f__law_encoded T.g__law_encoded sc__law_encoded (fun _ _ _ _ _ _ us hl => match us, hl with | [_, _], _ => rfl) (by rintro vs H Q E ⟨op, q, a, b, c, rfl, _⟩; rfl) fun cdv A outer s H vs Q E hr h => ?_
  obtain ⟨op, q, a, b, c, rfl, hop, hq, ha, hb, hc, k⟩ := h
  refine ⟨_, (pss_cons (M.ps_tryAs (i := 3) rfl rfl sc__law_encoded.nd rfl rfl (by rfl) (by decide) T.g_BadCode (fun W pn xe tk _ => (pss_one (ps_set (i := 2) sc__law_encoded.nd rfl (Or.inl rfl) (M.pe_cX (ok_encode T) hr (by decide) (by rfl) tk (pa_cons (pv 0) (pa_cons (pe_ix (ix_list : IxR _ (rIxL K)) (pv 1) pe_int (fun _ _ => rfl)) (pa_cons (pe_ix (ix_list : IxR _ (rIxL K)) (pv 1) pe_int (fun _ _ => rfl)) (pa_cons (pe_ix (ix_list : IxR _ (rIxL K)) (pv 1) pe_int (fun _ _ => rfl)) pa_nil)))))))) (fun a oe cls d pn hz hf => (pss_cons (ps_if (PW.pt (pw_or (pt_val (M.pe_cH (okH__law_fits T) (M.hot_suite hz hf) (M.room_suite hr) (by decide) (by rfl) (pa_cons (pv 0) (pa_cons (pv 1) pa_nil)))) (pw_or (pt_not (pt_val (pe_callB (M.call_isXn T.i_BadCode hz.zc hf : CallR _ _ (M.rIsX K (He.ga K "BadCode") a cls d)) (by rfl) T.b_isinstance (by decide +kernel) (pa_cons (pv 3) (pa_cons (C8.pe_gc (v := V.ref (He.ga K "MerestoneError")) (by rfl) ⟨_, T.g_MerestoneError, rfl⟩) pa_nil))))) (pw_or1 (pt_not (pt_val (pe_callB (M.call_isXn T.i_BadCode hz.zc hf : CallR _ _ (M.rIsX K (He.ga K "BadCode") a cls d)) (by rfl) T.b_isinstance (by decide +kernel) (pa_cons (pv 3) (pa_cons (pe_bltn (v := V.ty "ValueError") (u := Value.type "ValueError") (by rfl) T.b_ValueError (by decide +kernel) rfl) pa_nil))))))))) (pss_one (ps_ret pe_bl)) pss_nil) (pss_one (ps_ret (pe_and (pe_cmpR op_eq (L2.pe_xf T.x_BadCode T.nf_BadCode_op hz.zc hf (pv 3)) (pv 0) (nomark _)) (pe_and (M.pe_cH (okH__law_is T) (M.hot_suite hz hf) (M.room_suite hr) (by decide) (by rfl) (pa_cons (L2.pe_xf T.x_BadCode T.nf_BadCode_a hz.zc hf (pv 3)) (pa_cons (pe_ix (ix_list : IxR _ (rIxL K)) (pv 1) pe_int (fun _ _ => rfl)) pa_nil))) (pe_and (M.pe_cH (okH__law_is T) (M.hot_suite hz hf) (M.room_suite hr) (by decide) (by rfl) (pa_cons (L2.pe_xf T.x_BadCode T.nf_BadCode_b hz.zc hf (pv 3)) (pa_cons (pe_ix (ix_list : IxR _ (rIxL K)) (pv 1) pe_int (fun _ _ => rfl)) pa_nil))) (pe_one (M.pe_cH (okH__law_is T) (M.hot_suite hz hf) (M.room_suite hr) (by decide) (by rfl) (pa_cons (L2.pe_xf T.x_BadCode T.nf_BadCode_c hz.zc hf (pv 3)) (pa_cons (pe_ix (ix_list : IxR _ (rIxL K)) (pv 1) pe_int (fun _ _ => rfl)) pa_nil)))))))))))) (pss_cons (ps_if (pt_not (pt_val (C8.pe_c (ok__law_fits T) hr (by decide) (by rfl) (pa_cons (pv 0) (pa_cons (pv 1) pa_nil))))) (pss_one (ps_ret pe_bl)) pss_nil) (pss_cons (ps_set (i := 4) sc__law_encoded.nd rfl (Or.inl rfl) (pe_op op_add (pe_op op_add (pe_op op_add (pe_op op_mul pe_int (pe_bm PySem.F.plainAttrs_list PySem.F.slot_list_index PySem.F.type_list_index mt_index (M.pe_c0 (ok__law_ops T) hr (by decide) (by rfl)) (pa_cons (pv 0) pa_nil))) (pe_op op_mul pe_int (pe_ix ix_list (pv 1) pe_int (fun _ _ => rfl)))) (pe_op op_mul pe_int (pe_ix ix_list (pv 1) pe_int (fun _ _ => rfl)))) (pe_ix ix_list (pv 1) pe_int (fun _ _ => rfl)))) (pss_cons (ps_set (i := 5) sc__law_encoded.nd rfl (Or.inl rfl) (C8.pe_c (ok_decode T) hr (by decide) (by rfl) (pa_cons (pv 2) pa_nil))) (pss_one (ps_ret (pe_and (C8.pe_c (ok__law_is T) hr (by decide) (by rfl) (pa_cons (pv 2) (pa_cons (pv 4) pa_nil))) (pe_and (pe_cmpR op_notN1 (pv 5) pe_non (nomark _)) (pe_one (C8.pe_c (ok__law_parts T) hr (by decide) (by rfl) (pa_cons (pv 5) (pa_cons (pv 0) (pa_cons (pv 1) pa_nil))))))))))))), ?_⟩
  walk_at "go"
  refine go_encode hop (by omega) (by omega) (by omega) (fun ok => ?_) (fun nok d hd => ?_)
  · obtain ⟨de1, de2, de3, de4, de5⟩ := dec_enc ok
    walk_at "go"
    refine go__law_fits (fs := [a, b, c]) rfl hq fun H1 e1 => ?_
    rw [fits_ok, decide_eq_true ok]
    walk_at "go"
    intro p2 H2 hp2 e2 h2
    walk_at "go"
    refine M.x_lidx (l := opsl) (SqL.of h2) ok.1 ?_
    have hi := ops_idx ok.1
    have hq2 : H2 q = some (.lst [.int a, .int b, .int c]) := e2 _ _ (e1 _ _ hq)
    walk_at "go"
    refine go_decode (by omega) (fun nd => ?_) (fun od p3 H3 hp3 e3 h3 => ?_)
    · exact absurd ⟨de1.2, by rw [de2, de3, de4, de5]; exact ok.2⟩ nd
    · walk_at "go"
      refine M.x_ifTD (by unfold encM; omega) ?_
      walk_at "go"
      have hq3 : H3 q = some (.lst [.int a, .int b, .int c]) := e3 _ _ hq2
      unfold decV at h3
      rw [de2, de3, de4, de5] at h3
      refine ⟨p3, op, op, _, _, _, q, _, _, _, rfl, h3, hq3, fun b' hb' => ?_⟩
      obtain rfl : b' = true := hb'.mpr ⟨rfl, rfl, rfl, rfl⟩
      exact k _ ((e1.trans e2).trans e3)
  · refine M.x_was T.exm_BadCode_BadCode (fun x hx => ?_)
    walk_at "go"
    have hx1 : (upd H d (.xd [("c", .int c), ("b", .int b), ("a", .int a), ("op", .str op)])) d = some (.xd [("c", .int c), ("b", .int b), ("a", .int a), ("op", .str op)]) := upd_same
    have hs : Same H (upd H d (.xd [("c", .int c), ("b", .int b), ("a", .int a), ("op", .str op)])) := M.same_new hd
    revert hx1 hs
    generalize (upd H d (.xd [("c", .int c), ("b", .int b), ("a", .int a), ("op", .str op)])) = H0
    intro hx1 hs
    have hq1 : H0 q = some (.lst [.int a, .int b, .int c]) := hs _ _ hq
    refine go__law_fits (fs := [a, b, c]) rfl hq1 fun H1 e1 => ?_
    rw [fits_ok, decide_eq_false nok]
    have hx2 := e1 _ _ hx1
    have hq2 := e1 _ _ hq1
    walk_at "go"
    refine M.x_isXr hx2 T.kit_BadCode_MerestoneError ?_
    walk_at "go"
    refine M.x_isXt hx2 T.kit_BadCode_ValueError ?_
    walk_at "go"
    refine M.x_isXf hx2 (v := .str op) (by rfl) ?_
    walk_at "go"
    refine M.x_isXf hx2 (v := .int a) (by rfl) ?_
    walk_at "go"
    refine M.x_isXf hx2 (v := .int b) (by rfl) ?_
    walk_at "go"
    refine M.x_isXf hx2 (v := .int c) (by rfl) ?_
    walk_at "go"
    refine M.bEq (k _ (hs.trans e1)) (by simp)
end

end K01
namespace K01
open PySem PySem.Spec PyProof.Rows L2
local macro_rules | `(tactic| walk_at "s") => `(tactic| first
  | ((with_reducible refine' M.x_var ?xv ?_); (case xv => exact rfl))
  | with_reducible refine M.x_c ?_
  | with_reducible refine M.x_op ?_
  | with_reducible refine M.x_seq ?_
  | with_reducible refine M.x_asg ?_
  | with_reducible refine M.x_gname ?_
  | with_reducible refine M.x_rI0 ?_
  | ((with_reducible refine' M.x_rI ?xc ?_); (case xc => walk_at "side"))
  | with_reducible refine M.x_call ?_
  | with_reducible refine M.x_callB ?_
  | with_reducible refine M.x_cons ?_
  | with_reducible refine M.x_nil ?_
  | with_reducible refine M.x_int ?_
  | with_reducible refine M.x_intB ?_
  | with_reducible refine M.x_ifS ?_
  | with_reducible refine M.x_test ?_
  | with_reducible refine M.x_tB ?_
  | with_reducible refine M.x_isB ?_
  | with_reducible refine M.x_ret ?_
  | with_reducible refine M.x_retN ?_
  | with_reducible refine M.x_next ?_
  | with_reducible refine M.x_brk ?_
  | with_reducible refine M.x_cont ?_
  | with_reducible refine M.x_drop ?_
  | with_reducible refine M.x_eqI ?_
  | with_reducible refine M.x_neI ?_
  | with_reducible refine M.x_eqS ?_
  | with_reducible refine M.x_neS ?_
  | with_reducible refine M.x_eqB ?_
  | with_reducible refine M.x_neB ?_
  | with_reducible refine M.x_ifT ?_
  | with_reducible refine M.x_ifF ?_
  | with_reducible refine M.x_and ?_
  | with_reducible refine M.x_or ?_
  | with_reducible refine M.x_not ?_
  | with_reducible refine M.x_ifNB ?_
  | with_reducible refine M.x_andV ?_
  | with_reducible refine M.x_orV ?_
  | with_reducible refine M.x_notV ?_
  | with_reducible refine M.x_ifE ?_
  | with_reducible refine M.x_chain ?_
  | with_reducible refine M.x_isN ?_
  | with_reducible refine M.x_notN ?_
  | with_reducible refine M.x_un ?_
  | with_reducible refine M.x_rU ?_
  | with_reducible refine M.x_max2 ?_
  | with_reducible refine M.x_min2 ?_
  | with_reducible refine M.x_isiII ?_
  | with_reducible refine M.x_isiIB ?_
  | with_reducible refine M.x_isiBB ?_
  | with_reducible refine M.x_isiSS ?_
  | ((with_reducible refine' M.x_ifTD ?xp ?_); (case xp => first | exact rfl | decide | omega))
  | ((with_reducible refine' M.x_ifFD ?xp ?_); (case xp => first | exact rfl | decide | omega))
  | with_reducible refine M.x_lst' ?_
  | with_reducible refine M.x_tup' ?_)
local macro_rules | `(tactic| walk_at "side") => `(tactic| first
  | decide
  | (show (0 : Int) < _; decide)
  | (show (0 : Int) < _; omega)
  | (show (0 : Int) ≤ _; omega)
  | (exact ⟨by decide, by decide⟩)
  | (exact ⟨by omega, by omega⟩)
  | (exact Or.inr ⟨by decide, by decide⟩)
  | (exact Or.inl ⟨by decide, by decide⟩)
  | (exact Or.inr ⟨by omega, by omega⟩)
  | (exact Or.inl ⟨by omega, by omega⟩)
  | (exact ⟨by decide, by decide, by decide⟩)
  | (exact ⟨by omega, by omega, by omega⟩))
local macro_rules | `(tactic| walk_at "go") => `(tactic| (repeat walk_at "s"))
local macro_rules | `(tactic| walk_at "hp") => `(tactic| first
  | assumption
  | exact upd_same
  | ((refine' M.same_hp ?xe ?xq); (case xe => assumption); (case xq => walk_at "hp")))
local macro_rules | `(tactic| walk_at "seq") => `(tactic| first
  | assumption
  | exact SqL.of (by assumption)
  | ((refine' Same.seq ?xe ?xq); (case xe => assumption); (case xq => walk_at "seq")))
local macro_rules | `(tactic| walk_at "sqt") => `(tactic| first
  | assumption
  | exact SqT.of (by assumption)
  | ((refine' M.Same.st ?xe ?xq); (case xe => assumption); (case xq => walk_at "sqt")))
local macro_rules | `(tactic| walk_at "at") => `(tactic| first
  | exact rfl
  | exact M.atI_ints (by omega) (by omega)
  | exact M.atI_ints (by omega) (by simp; omega))
local macro_rules | `(tactic| walk_at "s") => `(tactic| first
  | with_reducible refine M.x_truV ?_
  | ((with_reducible refine' M.x_truL ?xh ?_); (case xh => walk_at "seq"))
  | with_reducible refine M.x_truI ?_
  | with_reducible refine M.x_isBl ?_
  | with_reducible refine M.x_notBl ?_
  | ((with_reducible refine' M.x_ixL ?xh ?xa ?_); (case xh => walk_at "seq"); (case xa => walk_at "at"))
  | ((with_reducible refine' M.x_ixT ?xh ?xa ?_); (case xh => walk_at "sqt"); (case xa => walk_at "at"))
  | ((with_reducible refine' M.x_lenL ?xh ?_); (case xh => walk_at "seq"))
  | ((with_reducible refine' M.x_lenT ?xh ?_); (case xh => walk_at "sqt"))
  | ((with_reducible refine' M.x_listL ?xh ?_); (case xh => walk_at "seq"))
  | ((with_reducible refine' M.x_newL ?xz ?_); (case xz => exact M.sl4 (by first | decide | simp)))
  | ((with_reducible refine' M.x_newT ?xz ?_); (case xz => exact M.sl4 (by first | decide | simp)))
  | ((with_reducible refine' M.x_cat ?xh ?xi ?xz ?_); (case xh => walk_at "hp"); (case xi => walk_at "hp"); (case xz => exact M.sl4 (by first | decide | simp))))

local macro_rules | `(tactic| walk_at "s") => `(tactic| first
  | ((with_reducible refine' M.x_inL ?xh ?xf ?xg ?_); (case xh => walk_at "seq"); (case xf => exact rfl); (case xg => first | exact rfl | exact M.flat_strsV _))
  | ((with_reducible refine' M.x_inT ?xh ?xf ?xg ?_); (case xh => walk_at "sqt"); (case xf => exact rfl); (case xg => first | exact rfl | exact M.flat_strsV _))
  | ((with_reducible refine' M.x_notInL ?xh ?xf ?xg ?_); (case xh => walk_at "seq"); (case xf => exact rfl); (case xg => first | exact rfl | exact M.flat_strsV _))
  | ((with_reducible refine' M.x_notInT ?xh ?xf ?xg ?_); (case xh => walk_at "sqt"); (case xf => exact rfl); (case xg => first | exact rfl | exact M.flat_strsV _))
  | with_reducible refine M.x_bm ?_
  | ((with_reducible refine' M.x_tyL ?xh ?_); (case xh => walk_at "seq"))
  | ((with_reducible refine' M.x_tyK ?xh ?_); (case xh => walk_at "tyk"))
  | with_reducible refine M.x_m1 ?_
  | with_reducible refine M.x_txt ?_
  | ((with_reducible refine' M.x_split ?xh ?xi ?_); (case xh => decide +kernel); (case xi => decide +kernel))
  | ((with_reducible refine' M.x_addZ ?xh ?_); (case xh => decide +kernel))
  | ((with_reducible refine' M.x_tupL ?xh ?_); (case xh => walk_at "seq"))
  | ((with_reducible refine' M.x_isiTT ?xh ?_); (case xh => walk_at "hp"))
  | with_reducible refine M.x_rz ?_
  | with_reducible refine M.x_mkE ?_
  | with_reducible refine M.x_tryAs ?_
  | with_reducible refine M.x_callS ?_
  | with_reducible refine M.x_xf ?_)
local macro_rules | `(tactic| walk_at "s") => `(tactic| first
  | with_reducible refine M.x_isN0 ?_
  | with_reducible refine M.x_isNr ?_
  | with_reducible refine M.x_isNi ?_
  | with_reducible refine M.x_isNs ?_
  | with_reducible refine M.x_notN0 ?_
  | with_reducible refine M.x_notNr ?_
  | with_reducible refine M.x_notNi ?_
  | with_reducible refine M.x_notNs ?_)
local macro_rules | `(tactic| walk_at "split") => `(tactic| (walk_at "go"; first | done | ((refine M.x_ifD (fun _ => ?_) (fun _ => ?_)) <;> walk_at "split") | ((refine M.x_if (fun _ => ?_) (fun _ => ?_)) <;> walk_at "split") | skip))
local macro_rules | `(tactic| walk_at "sqt") => `(tactic| first
  | exact Tx.q_OPS (by assumption) _
  | exact Tx.q_KERNEL_ONLY (by assumption) _
  | exact Tx.q_NONE (by assumption) _
  | exact Tx.q_ONE (by assumption) _
  | exact Tx.q_TWO (by assumption) _
  | exact Tx.q_THREE (by assumption) _)
local macro_rules | `(tactic| walk_at "tyk") => `(tactic| exact Tx.o_OPS (by assumption))

local macro_rules | `(tactic| walk_at "s") => `(tactic| with_reducible refine go_size_of ?_)
local macro_rules | `(tactic| walk_at "s") => `(tactic| with_reducible refine go__law_number ?_)
local macro_rules | `(tactic| walk_at "s") => `(tactic| with_reducible refine go__law_ops ?_)
local macro_rules | `(tactic| walk_at "s") => `(tactic| with_reducible refine go__law_most ?_)
local macro_rules | `(tactic| walk_at "s") => `(tactic| with_reducible refine go__law_is ?_)
section
variable {P : Program} {w : World} {K : PySem.W.Frag} {mg : Str → Option Value} {base : Heap}
def sp_law (K : PySem.W.Frag) : Sp := fun vs H Q _ => ∃ (a : Addr) (ns : List Int), vs = [.ref a] ∧ SqL K H a (ns.map V.int) ∧ ns.length ≤ 63 ∧ ∀ H', Q (.bl true) H'
def konl : List Str := ["getu", "putu", "gets", "puts", "until", "rest"]
def oddl : List Str := ["", "Set", "jumps", "0"]
def fieldV (f m : Int) : Int := f / 2 * (if decide (m > 0) = true then 1 else 0)
theorem fieldV_small {f m : Int} (h : f.natAbs < 1000) : (fieldV f m).natAbs < 1000 := by
  unfold fieldV
  split <;> omega
abbrev M.N_law : List Str := ["script", "cells", "ops", "k", "x", "word", "y", "op", "fields", "most", "size", "cell", "at"]
theorem sc_law : FnScope M.N_law ["script"] (defScope s_law) := ⟨rfl, rfl, rfl, by decide +kernel, rfl, by decide +kernel, by decide +kernel⟩
theorem ok_law (T : Tx P K mg) {fd : FuncData} (F : FunD K "law" "law" (defArgs s_law) (defBody s_law) (defScope s_law) [] [] (He.ga K "law") fd) : FnOk P w K mg base CX0 6 (He.ga K "law") fd ["script"] (sp_law K) := by
  refine M.fn_mk F sc_law (by rintro vs H Q E ⟨a, b, rfl, _⟩; rfl) fun cdv A outer s H vs Q E hr h => ?_
  obtain ⟨a, ns, rfl, hS, hlen, k⟩ := h
  refine ⟨_, (pss_cons (ps_setLc (i := 1) (own := [("cell", 11)]) rfl sc_law.nd rfl rfl (sw_true rfl rfl rfl (by decide +kernel)) (pi_list (pv 0)) (blkOk_by (own := [("cell", 11)]) (N := M.N_law) (sc := defScope s_law) (by decide +kernel)) (fun _ _ _ _ _ => (pg_name (i := 11) sc_law.nd rfl (Or.inl rfl))) (fun _ _ _ _ _ => pts_nil) (fun _ _ _ _ _ => (pe_callTy M.call_int (by rfl) T.b_int (by decide +kernel) (pa_cons (pv 11) pa_nil)))) (C8.pss_cut (ps_if (pt_not (M.pt_tru (pv 1))) (pss_one (ps_set (i := 1) sc_law.nd rfl (Or.inl rfl) (pe_lst (pa_cons pe_int pa_nil)))) pss_nil) (pss_cons (ps_set (i := 2) sc_law.nd rfl (Or.inl rfl) (M.pe_c0 (ok__law_ops T) hr (by decide) (by rfl))) (pss_cons (ps_if (PW.pt (pw_or (pt_cmpR (op_neD hr.units) (C8.pe_gc (by rfl) T.g_OPS) (pe_callTy M.call_tuple (by rfl) T.b_tuple (by decide +kernel) (pa_cons (pv 2) pa_nil)) (nomark _)) (pw_or1 (pt_cmpR (op_neD hr.units) (C8.pe_gc (by rfl) T.g_KERNEL_ONLY) (pe_tup (pa_cons pe_str (pa_cons pe_str (pa_cons pe_str (pa_cons pe_str (pa_cons pe_str (pa_cons pe_str pa_nil))))))) (nomark _))))) (pss_one (ps_ret pe_bl)) pss_nil) (pss_cons (ps_for PassesOwn.never rfl (pi_range1 (by rfl) T.b_range (pa_cons (pe_callB M.call_len (by rfl) T.b_len (by decide +kernel) (pa_cons (pv 1) pa_nil)) pa_nil)) (pg_name (i := 3) sc_law.nd rfl (Or.inl rfl)) (pss_cons (ps_set (i := 4) sc_law.nd rfl (Or.inl rfl) (C8.pe_c (ok__law_number T) hr (by decide) (by rfl) (pa_cons (pe_ix ix_list (pv 1) (pv 3) (fun _ _ => rfl)) (pa_cons (pv 3) pa_nil)))) (pss_cons (ps_set (i := 5) sc_law.nd rfl (Or.inl rfl) (pe_op op_mod (pe_op op_fdiv (pv 4) pe_int) pe_int)) (C8.pss_cut (ps_if (pt_cmpR op_eq (pe_op op_mod (pe_callTy M.call_int (by rfl) T.b_int (by decide +kernel) (pa_cons (pv 4) pa_nil)) pe_int) pe_int (nomark _)) (pss_one (ps_set (i := 5) sc_law.nd rfl (Or.inl rfl) (pe_op op_add (pe_op op_add (pe_op op_add (pe_op op_mul (pe_op op_mod (pe_op op_fdiv (pv 4) pe_int) pe_int) pe_int) (pe_op op_mul (pe_op op_mod (pe_op op_fdiv (pv 4) pe_int) pe_int) pe_int)) (pe_op op_mul (pe_op op_mod (pe_op op_mod (pe_op op_fdiv (pv 4) pe_int) pe_int) pe_int) pe_int)) (pe_op op_mod (pe_op op_fdiv (pv 4) pe_int) pe_int)))) pss_nil) (pss_cons (ps_if (pt_not (pt_val (C8.pe_c (ok__law_decoded T) hr (by decide) (by rfl) (pa_cons (pv 5) pa_nil)))) (pss_one (ps_ret pe_bl)) pss_nil) (pss_cons (ps_set (i := 6) sc_law.nd rfl (Or.inl rfl) (C8.pe_c (ok__law_number T) hr (by decide) (by rfl) (pa_cons (pe_op op_add (pe_op op_fdiv (pe_ix ix_list (pv 1) (pv 3) (fun _ _ => rfl)) pe_int) (pe_op op_mul pe_int (pv 3))) (pa_cons (pe_op op_add (pv 3) pe_int) pa_nil)))) (pss_cons (ps_set (i := 7) sc_law.nd rfl (Or.inl rfl) (pe_ix ix_list (pv 2) (pe_op op_mod (pe_op op_fdiv (pv 6) pe_int) pe_int) (fun _ _ => rfl))) (C8.pss_cut (ps_if (pt_cmpR op_eq (pe_op op_mod (pe_callTy M.call_int (by rfl) T.b_int (by decide +kernel) (pa_cons (pv 6) pa_nil)) pe_int) pe_int (nomark _)) (pss_one (ps_set (i := 7) sc_law.nd rfl (Or.inl rfl) (pe_ix ix_list (pe_lst (pa_cons pe_str (pa_cons pe_str (pa_cons pe_str (pa_cons pe_str pa_nil))))) (pe_op op_mod (pe_op op_fdiv (pv 6) pe_int) pe_int) (fun _ _ => rfl)))) pss_nil) (pss_cons (ps_set (i := 8) sc_law.nd rfl (Or.inr rfl) (pe_lst (pa_cons (pe_op op_sub (pe_op op_mod (pe_op op_fdiv (pv 6) pe_int) pe_int) pe_int) (pa_cons (pe_op op_sub (pe_op op_mod (pe_op op_fdiv (pv 6) pe_int) pe_int) pe_int) (pa_cons (pe_op op_sub (pe_op op_mod (pe_op op_fdiv (pv 6) pe_int) pe_int) pe_int) pa_nil))))) (C8.pss_cut (ps_if (PW.pt (pw_and (pt_cmpR op_eq (pe_op op_mod (pe_op op_fdiv (pv 6) pe_int) pe_int) pe_int (nomark _)) (pw_and1 (pt_cmpR op_in_seq (pv 7) (pv 2) (by rfl))))) (pss_cons (ps_set (i := 9) sc_law.nd rfl (Or.inr rfl) (C8.pe_c (ok__law_most T) hr (by decide) (by rfl) (pa_cons (pv 7) pa_nil))) (pss_one (ps_set (i := 8) sc_law.nd rfl (Or.inr rfl) (pe_lc (own := [("at", 12)]) rfl sc_law.nd (pi_range1 (by rfl) T.b_range (pa_cons pe_int pa_nil)) (blkOk_by (own := [("at", 12)]) (N := M.N_law) (sc := defScope s_law) (by decide +kernel)) (fun _ _ _ _ _ => (pg_name (i := 12) sc_law.nd rfl (Or.inl rfl))) (fun _ _ _ _ _ => pts_nil) (fun _ _ _ _ _ => (pe_op op_mul (pe_op op_fdiv (pe_ix (ix_list : IxR _ (rIxL K)) (pv 8) (pv 12) (fun _ _ => rfl)) pe_int) (pe_callTy M.call_int (by rfl) T.b_int (by decide +kernel) (pa_cons (pe_cmpR op_gt (pe_ix (ix_tup : IxR _ (rIxT K)) (pv 9) (pv 12) (fun _ _ => rfl)) pe_int (nomark _)) pa_nil)))))))) pss_nil) (pss_cons (ps_if (pt_not (pt_val (C8.pe_c (ok__law_encoded T) hr (by decide) (by rfl) (pa_cons (pv 7) (pa_cons (pv 8) pa_nil))))) (pss_one (ps_ret pe_bl)) pss_nil) (pss_cons (ps_set (i := 10) sc_law.nd rfl (Or.inl rfl) (C8.pe_c (ok_size_of T) hr (by decide) (by rfl) (pa_cons (pe_ix ix_list (pv 2) (pe_op op_mod (pe_op op_fdiv (pv 6) pe_int) pe_int) (fun _ _ => rfl)) pa_nil))) (pss_one (ps_if (pt_not (pt_val (C8.pe_c (ok__law_is T) hr (by decide) (by rfl) (pa_cons (pv 10) (pa_cons (pe_op op_add pe_int (pe_callTy M.call_int (by rfl) T.b_int (by decide +kernel) (pa_cons (pe_cmpR op_eq (pe_ix ix_list (pv 2) (pe_op op_mod (pe_op op_fdiv (pv 6) pe_int) pe_int) (fun _ _ => rfl)) pe_str (nomark _)) pa_nil))) pa_nil))))) (pss_one (ps_ret pe_bl)) pss_nil)))))))))))))) (pss_one (ps_ret pe_bl))))))), ?_⟩
  walk_at "go"
  refine M.x_lcL (fun Q q => by walk_at "go"; exact q) hS (by simp; omega) (ys := ns.map V.int) rfl (fun i x y H' hx hy e => ?_) (fun p H1 hp e1 h1 => ?_) (fun x σ H P P' => M.gName_mono x σ H P P')
  · obtain ⟨z, hz, rfl⟩ := M.map_int_get hx
    rw [hx] at hy
    cases hy
    refine ⟨rfl, rfl, fun R r => ?_⟩
    walk_at "go"
    exact r
  walk_at "go"
  refine M.x_cut (fun σ' H' => ∃ p, σ' = [some (.ref a), some (.ref p), none, none, none, none, none, none, none, none, none, none, none] ∧ Same H H' ∧ H' p = some (.lst ((M.cellsOf [4] ns).map V.int))) ?_ ?_
  · walk_at "go"
    refine M.x_if (fun h => ?_) (fun h => ?_)
    · have hn : ns = [] := by
        cases ns with
        | nil => rfl
        | cons _ _ => simp at h
      walk_at "go"
      intro p2 H2 hp2 e2 h2
      walk_at "go"
      exact ⟨p2, rfl, e1.trans e2, by rw [h2, M.cellsOf, if_pos hn]; rfl⟩
    · have hn : ns ≠ [] := by
        rintro rfl
        simp at h
      walk_at "go"
      exact ⟨p, rfl, e1, by rw [h1, M.cellsOf, if_neg hn]⟩
  rintro σ' H' ⟨p, rfl, e1, h1⟩
  have hcl : (M.cellsOf [4] ns).length ≤ 63 := by
    unfold M.cellsOf
    split
    · simp
    · exact hlen
  walk_at "go"
  intro q H2 hq e2 h2
  walk_at "go"
  intro t H3 ht e3 h3
  walk_at "go"
  refine M.x_neD (.tup (T.q_OPS _) (M.DpAll.strs opsl)) (.tup (SqT.of h3) (M.DpAll.strs opsl)) (by decide +kernel) (by decide +kernel) ?_
  rw [show PyData.eqv (.tuple (opsl.map PyData.str)) (.tuple (opsl.map PyData.str)) = true by decide +kernel]
  walk_at "go"
  intro t4 H4 ht4 e4 h4
  walk_at "go"
  refine M.x_neD (.tup (T.q_KERNEL_ONLY _) (M.DpAll.strs konl)) (.tup (SqT.of h4) (M.DpAll.strs konl)) (by decide +kernel) (by decide +kernel) ?_
  rw [show PyData.eqv (.tuple (konl.map PyData.str)) (.tuple (konl.map PyData.str)) = true by decide +kernel]
  walk_at "go"
  have hp4 : H4 p = some (.lst ((M.cellsOf [4] ns).map V.int)) := e4 _ _ (e3 _ _ (e2 _ _ h1))
  have hq4 : H4 q = some (.lst (opsl.map V.str)) := e4 _ _ (e3 _ _ h2)
  refine M.x_for1 (n := ((((M.cellsOf [4] ns).map V.int).length : Nat) : Int)) (fun Q q => by walk_at "go"; exact q) (by simp; omega) (fun i σ' H' => ∃ v3 v4 v5 v6 v7 v8 v9 v10 v11 v12, σ' = [some (.ref a), some (.ref p), some (.ref q), v3, v4, v5, v6, v7, v8, v9, v10, v11, v12] ∧ H' p = some (.lst ((M.cellsOf [4] ns).map V.int)) ∧ H' q = some (.lst (opsl.map V.str)))
    ⟨_, _, _, _, _, _, _, _, _, _, rfl, hp4, hq4⟩ ?_ ?_
  · rintro i σ' H5 hi ⟨v3, v4, v5, v6, v7, v8, v9, v10, v11, v12, rfl, hp5, hq5⟩
    have hi2 : i < (M.cellsOf [4] ns).length := by simpa using hi
    walk_at "go"
    generalize hX : lawNumber ((M.cellsOf [4] ns).getD _ 0) _ = X
    refine M.x_cut (fun σ' H' => ∃ wd, σ' = [some (.ref a), some (.ref p), some (.ref q), some (.int i), some (.int X), some (.int wd), v6, v7, v8, v9, v10, v11, v12] ∧ H' = H5 ∧ 0 ≤ wd ∧ wd < 65536) ?_ ?_
    · walk_at "go"
      refine M.x_ifD (fun c1 => ?_) (fun c1 => ?_)
      · walk_at "go"
        exact ⟨_, rfl, rfl, by omega, by omega⟩
      · walk_at "go"
        exact ⟨_, rfl, rfl, by omega, by omega⟩
    rintro σ' H' ⟨wd, rfl, rfl, hw1, hw2⟩
    walk_at "go"
    refine go__law_decoded ⟨hw1, hw2⟩ fun H6 e6 => ?_
    have hp6 := e6 _ _ hp5
    have hq6 := e6 _ _ hq5
    walk_at "go"
    generalize hY : lawNumber _ _ = Y
    have hat : ∀ j : Int, 0 ≤ j → j < 26 → atI (opsl.map V.str) j = some (.str (opsl.getD j.toNat "")) := fun j h0 h1 => M.atI_strs h0 (by show j < ((26 : Nat) : Int); omega)
    refine M.x_ixL (SqL.of hq6) (hat (Y / 8 % 26) (by omega) (by omega)) ?_
    walk_at "go"
    refine M.x_cut (fun σ' H' => ∃ op : Str, σ' = [some (.ref a), some (.ref p), some (.ref q), some (.int i), some (.int X), some (.int wd), some (.int Y), some (.str op), v8, v9, v10, v11, v12] ∧ Same H6 H' ∧ op.length ≤ 1000) ?_ ?_
    · walk_at "go"
      refine M.x_ifD (fun c1 => ?_) (fun c1 => ?_)
      · walk_at "go"
        intro p7 H7 hp7 e7 h7
        walk_at "go"
        have hat4 : ∀ j : Int, 0 ≤ j → j < 4 → atI (oddl.map V.str) j = some (.str (oddl.getD j.toNat "")) := fun j h0 h1 => M.atI_strs h0 (by show j < ((4 : Nat) : Int); omega)
        refine M.x_ixL (xs := oddl.map V.str) (SqL.of h7) (hat4 (Y / 8 % 4) (by omega) (by omega)) ?_
        walk_at "go"
        refine ⟨_, rfl, e7, ?_⟩
        have key : ∀ j : Nat, (oddl.getD j "").length ≤ 1000 := fun j => by
          match j with
          | 0 => decide
          | 1 => decide
          | 2 => decide
          | 3 => decide
          | n + 4 => show ("" : Str).length ≤ 1000; decide
        exact key _
      · walk_at "go"
        exact ⟨_, rfl, Same.refl _, ops_short (mem_of (by omega))⟩
    rintro σ' H7 ⟨op, rfl, e7, hop⟩
    have hp7 := e7 _ _ hp6
    have hq7 := e7 _ _ hq6
    walk_at "go"
    intro r H8 hr8 e8 h8
    have hp8 := e8 _ _ hp7
    have hq8 := e8 _ _ hq7
    walk_at "go"
    generalize hf0 : Y / 208 % 11 - 1 = f0 at h8 ⊢
    generalize hf1 : Y / 2288 % 11 - 1 = f1 at h8 ⊢
    generalize hf2 : Y / 25168 % 19 - 1 = f2 at h8 ⊢
    have b0 : f0.natAbs < 1000 := by omega
    have b1 : f1.natAbs < 1000 := by omega
    have b2 : f2.natAbs < 1000 := by omega
    refine M.x_cut (fun σ' H' => ∃ r a' b' c' v9 v12, σ' = [some (.ref a), some (.ref p), some (.ref q), some (.int i), some (.int X), some (.int wd), some (.int Y), some (.str op), some (.ref r), v9, v10, v11, v12] ∧ Same H8 H' ∧ H' r = some (.lst [.int a', .int b', .int c']) ∧ a'.natAbs < 1000 ∧ b'.natAbs < 1000 ∧ c'.natAbs < 1000) ?_ ?_
    · walk_at "go"
      refine M.x_ifD (fun c1 => ?_) (fun c1 => ?_)
      · walk_at "go"
        rw [M.inV_strs]
        refine M.x_ifD (fun c2 => ?_) (fun c2 => ?_)
        · walk_at "go"
          intro p9 H9 hp9 e9 h9
          have h8' := e9 _ _ h8
          walk_at "go"
          refine M.x_lcR (n := 3) (fun Q q => by walk_at "go"; exact q) ⟨by decide, by decide⟩ (ys := [.int (fieldV f0 ((mostM op).getD 0 0)), .int (fieldV f1 ((mostM op).getD 1 0)), .int (fieldV f2 ((mostM op).getD 2 0))]) rfl (fun j y H' hj hy e => ?_) (fun p10 H10 hp10 e10 h10 => ?_) (fun x σ H P P' => M.gName_mono x σ H P P')
          · have hm := most_len op
            have h8'' : H' r = some (.lst [.int f0, .int f1, .int f2]) := e _ _ h8'
            have h9' : H' p9 = some (.tup ((mostM op).map V.int)) := e _ _ h9
            refine ⟨rfl, rfl, fun R hR => ?_⟩
            have a1 : atI ([f0, f1, f2].map V.int) (j : Int) = some (.int ([f0, f1, f2].getD j 0)) := M.atI_ints (l := [f0, f1, f2]) (i := (j : Int)) (by omega) (by show (j : Int) < ((3 : Nat) : Int); omega)
            have a2 : atI ((mostM op).map V.int) (j : Int) = some (.int ((mostM op).getD j 0)) := M.atI_ints (l := mostM op) (i := (j : Int)) (by omega) (by omega)
            have bj : ([f0, f1, f2].getD j 0).natAbs < 1000 := by
              rcases (by omega : j = 0 ∨ j = 1 ∨ j = 2) with rfl | rfl | rfl
              · exact b0
              · exact b1
              · exact b2
            have ey : y = .int (fieldV ([f0, f1, f2].getD j 0) ((mostM op).getD j 0)) := by
              rcases (by omega : j = 0 ∨ j = 1 ∨ j = 2) with rfl | rfl | rfl
              · exact (Option.some.inj hy).symm
              · exact (Option.some.inj hy).symm
              · exact (Option.some.inj hy).symm
            rw [ey] at hR
            refine M.x_op ?_
            refine M.x_op ?_
            refine M.x_op ?_
            walk_at "s"
            walk_at "s"
            refine M.x_ixL (SqL.of h8'') a1 ?_
            walk_at "go"
            rw [Int.toNat_natCast]
            exact hR
          · walk_at "go"
            exact ⟨p10, _, _, _, _, _, rfl, e9.trans e10, h10, fieldV_small b0, fieldV_small b1, fieldV_small b2⟩
        · walk_at "go"
          exact ⟨r, _, _, _, _, _, rfl, Same.refl _, h8, b0, b1, b2⟩
      · walk_at "go"
        exact ⟨r, _, _, _, _, _, rfl, Same.refl _, h8, b0, b1, b2⟩
    rintro σ' H9 ⟨r, a', b', c', v9, v12, rfl, e9, h9, b0, b1, b2⟩
    have hp9 := e9 _ _ hp8
    have hq9 := e9 _ _ hq8
    walk_at "go"
    refine ⟨op, r, a', b', c', rfl, hop, h9, b0, b1, b2, fun H10 e10 => ?_⟩
    have hp10 := e10 _ _ hp9
    have hq10 := e10 _ _ hq9
    walk_at "go"
    refine M.x_ixL (SqL.of hq10) (hat (Y / 8 % 26) (by omega) (by omega)) ?_
    walk_at "go"
    refine M.x_ixL (SqL.of hq10) (hat (Y / 8 % 26) (by omega) (by omega)) ?_
    walk_at "go"
    refine M.x_ifTD (by generalize opsl.getD _ _ = z; by_cases hz : z = "set" <;> simp [hz]) ?_
    walk_at "go"
    exact ⟨_, _, _, _, _, _, _, _, _, _, rfl, hp10, hq10⟩
  · rintro σ' H5 ⟨v3, v4, v5, v6, v7, v8, v9, v10, v11, v12, rfl, hp5, hq5⟩
    walk_at "go"
    exact k H5
end
end K01
namespace K01
open PySem PySem.Spec PyProof.Rows L2
def fnD0 : He.DefD := ⟨("fits", none), "fits", "fits", defArgs s_fits, defBody s_fits, defScope s_fits, [], []⟩
def fnD1 : He.DefD := ⟨("encode", none), "encode", "encode", defArgs s_encode, defBody s_encode, defScope s_encode, [], []⟩
def fnD2 : He.DefD := ⟨("decode", none), "decode", "decode", defArgs s_decode, defBody s_decode, defScope s_decode, [], []⟩
def fnD3 : He.DefD := ⟨("size_of", none), "size_of", "size_of", defArgs s_size_of, defBody s_size_of, defScope s_size_of, [], []⟩
def fnD4 : He.DefD := ⟨("_law_number", none), "_law_number", "_law_number", defArgs s__law_number, defBody s__law_number, defScope s__law_number, [], []⟩
def fnD5 : He.DefD := ⟨("_law_ops", none), "_law_ops", "_law_ops", defArgs s__law_ops, defBody s__law_ops, defScope s__law_ops, [], []⟩
def fnD6 : He.DefD := ⟨("_law_most", none), "_law_most", "_law_most", defArgs s__law_most, defBody s__law_most, defScope s__law_most, [], []⟩
def fnD7 : He.DefD := ⟨("_law_fits", none), "_law_fits", "_law_fits", defArgs s__law_fits, defBody s__law_fits, defScope s__law_fits, [], []⟩
def fnD8 : He.DefD := ⟨("_law_is", none), "_law_is", "_law_is", defArgs s__law_is, defBody s__law_is, defScope s__law_is, [], []⟩
def fnD9 : He.DefD := ⟨("_law_parts", none), "_law_parts", "_law_parts", defArgs s__law_parts, defBody s__law_parts, defScope s__law_parts, [], []⟩
def fnD10 : He.DefD := ⟨("_law_decoded", none), "_law_decoded", "_law_decoded", defArgs s__law_decoded, defBody s__law_decoded, defScope s__law_decoded, [], []⟩
def fnD11 : He.DefD := ⟨("_law_encoded", none), "_law_encoded", "_law_encoded", defArgs s__law_encoded, defBody s__law_encoded, defScope s__law_encoded, [], []⟩
def fnD12 : He.DefD := ⟨("law", none), "law", "law", defArgs s_law, defBody s_law, defScope s_law, [], []⟩
def fn : List He.DefD := [fnD0, fnD1, fnD2, fnD3, fnD4, fnD5, fnD6, fnD7, fnD8, fnD9, fnD10, fnD11, fnD12]
def fa : List He.Fa := [.glo "fits",
  .glo "encode",
  .glo "decode",
  .glo "size_of",
  .glo "_law_number",
  .glo "_law_ops",
  .glo "_law_most",
  .glo "_law_fits",
  .glo "_law_is",
  .glo "_law_parts",
  .glo "_law_decoded",
  .glo "_law_encoded",
  .glo "law",
  .glo "MerestoneError",
  .glo "BadCode",
  .glo "OPS",
  .glo "KERNEL_ONLY",
  .glo "NONE",
  .glo "ONE",
  .glo "TWO",
  .glo "THREE",
  .int "READABLE" 7,
  .int "WRITABLE" 5,
  .free "int",
  .free "bool",
  .free "str",
  .free "len",
  .free "range",
  .free "min",
  .free "isinstance",
  .free "tuple",
  .free "ValueError",
  .free "super"]
abbrev R : PySem.W.OpenRow := PySem.W.OpenLaw.row PySem.Challenge.rw_merestone_k01_instructions_and_their_wor
def exs : List (PySem.W.Frag → Bool) := [fun K => XH.excB R.prog.main.file "BadCode" "BadCode.__init__" ["op", "a", "b", "c"] K,
  fun K => L2.xfB K (He.ga K "BadCode"),
  fun K => XH.excCB K (He.ga K "BadCode"),
  fun K => decide (PySem.W.findIn K (.ref (He.ga K "BadCode")) "op" = some none),
  fun K => decide (PySem.W.findIn K (.ref (He.ga K "BadCode")) "a" = some none),
  fun K => decide (PySem.W.findIn K (.ref (He.ga K "BadCode")) "b" = some none),
  fun K => decide (PySem.W.findIn K (.ref (He.ga K "BadCode")) "c" = some none),
  fun K => decide (PySem.W.exmOne K (.ref (He.ga K "BadCode")) (.ref (He.ga K "BadCode")) = some true),
  fun K => decide (PySem.W.kitOne K (.ref (He.ga K "BadCode")) (.ref (He.ga K "MerestoneError")) = some true),
  fun K => decide (PySem.W.kitOne K (.ref (He.ga K "BadCode")) (.type "ValueError") = some true),
  fun K => He.tupB K "OPS" [.str "halt", .str "set", .str "copy", .str "add", .str "sub", .str "mul", .str "and", .str "or", .str "xor", .str "shl", .str "shr", .str "addi", .str "load", .str "store", .str "jump", .str "jal", .str "beq", .str "bne", .str "blt", .str "call", .str "getu", .str "putu", .str "gets", .str "puts", .str "until", .str "rest"],
  fun K => XH.tupOB K (He.ga K "OPS"),
  fun K => He.tupB K "KERNEL_ONLY" [.str "getu", .str "putu", .str "gets", .str "puts", .str "until", .str "rest"],
  fun K => He.tupB K "NONE" [.str "halt", .str "until", .str "rest"],
  fun K => He.tupB K "ONE" [.str "set", .str "jump"],
  fun K => He.tupB K "TWO" [.str "copy", .str "jal", .str "getu", .str "putu"],
  fun K => He.tupB K "THREE" [.str "add", .str "sub", .str "mul", .str "and", .str "or", .str "xor"]]
def ex (K : PySem.W.Frag) : Bool := exs.all fun f => f K
def ts : List He.Tab := []
def names : List Str := (["MerestoneError", "BadCode", "OPS", "KERNEL_ONLY", "NONE", "ONE", "TWO", "THREE", "READABLE", "WRITABLE", "fits", "encode", "decode", "size_of", "_law_number", "_law_ops", "_law_most", "_law_fits", "_law_is", "_law_parts", "_law_decoded", "_law_encoded"] : List Str)
def fiD0 : XH.IniD := ⟨("BadCode", some "__init__"), "BadCode.__init__", defArgs s_BadCode___init__, defBody s_BadCode___init__, defScope s_BadCode___init__⟩
def fi : List XH.IniD := [fiD0]
abbrev hk : PySem.W.Hook := XH.hookY 6 fa fn ts fi ex
def ob (s : PySem.W.SharedT) : XH.AlY := XH.obsY 6 fa fn ts fi ex (HandSHeadRun.getT s)
theorem ob_eq (s : PySem.W.SharedT) : ob s = hk.obs s.abs := XH.obsY_eq (HandSHeadRun.getT_eq s)
theorem run0 (w : World) : HandSHeadRun.RunEq R (PySem.W.view R.prog [25]) hk ob 40000 names (w.withFollow "special-get-raises" false) := by
  intro os
  kernel_rfl
theorem run1 (w : World) : HandSHeadRun.RunEq R (PySem.W.view R.prog [25]) hk ob 40000 names (w.withFollow "special-get-raises" true) := by
  intro os
  kernel_rfl
theorem run (w : World) : HandSHeadRun.RunEq R (PySem.W.view R.prog [25]) hk ob 40000 names w := PySem.W.byRow2 "special-get-raises" (P := fun w => HandSHeadRun.RunEq R (PySem.W.view R.prog [25]) hk ob 40000 names w) run0 run1 w
theorem es_BadCode : ∃ (e : PySem.Expr) (p0 p1 p2 p3 p4 : Pos) (sts : List Stmt) (n : Nat), defBody s_BadCode___init__ = (.Expr (.Call (.Attribute (.Call (.Name "super" p0) [] [] p1) "__init__" p2) [e] [] p3) p4 :: sts) ∧ XM.ExcS R.prog "BadCode.__init__" (defArgs s_BadCode___init__) (defScope s_BadCode___init__) ["op", "a", "b", "c"] e p0 p1 p2 p3 p4 sts n := by
  have S : XM.ScT (defScope s_BadCode___init__) ["op", "a", "b", "c"] := ⟨rfl, by decide +kernel, by decide +kernel, by decide⟩
  refine ⟨_, _, _, _, _, _, _, 4003, rfl, ?_⟩
  exact {
    sc := S
    st := by repeat (first | exact XM.IsSt.nil | refine XM.IsSt.cons ?_)
    nd := by decide
    ne := by decide
    len := by decide
    hp := ⟨_, rfl, rfl⟩
    hks := by decide +kernel
    hkc := by decide +kernel
    top := by decide +kernel
    cell := by decide +kernel
    co := rfl
    gen := rfl
    bind := fun _ _ _ _ _ _ _ us hl => match us, hl with | [_, _, _, _, _], _ => rfl
    hev := fun _ _ _ _ => ⟨_, rfl⟩
    hsw := fun _ _ _ _ => rfl
    hse := fun _ _ _ _ => rfl
    txt := fun w A h m L fI cda cc G hn hm => by
      obtain ⟨v0, a0, b0⟩ := hm "op" (by decide)
      obtain ⟨v1, a1, b1⟩ := hm "a" (by decide)
      obtain ⟨v2, a2, b2⟩ := hm "b" (by decide)
      obtain ⟨v3, a3, b3⟩ := hm "c" (by decide)
      exact (XM.evT_add (n := 3003) (k := 1000) (l := 4003) (XM.evT_add (n := 3002) (k := 1) (l := 3003) (XM.evT_add (n := 2002) (k := 1000) (l := 3002) (XM.evT_add (n := 2001) (k := 1) (l := 2002) (XM.evT_add (n := 1001) (k := 1000) (l := 2001) (XM.evT_add (n := 1000) (k := 1) (l := 1001) (XM.evT_str (n := 1000) G hn a0 b0 rfl rfl S.kind (by rfl) (by rfl) (by decide) (Nat.le_refl _)) (XM.evT_c (n := 1) (by decide)) (by decide) (by decide +kernel)) (XM.evT_str (n := 1000) G hn a1 b1 rfl rfl S.kind (by rfl) (by rfl) (by decide) (Nat.le_refl _)) (by decide) (by decide +kernel)) (XM.evT_c (n := 1) (by decide)) (by decide) (by decide +kernel)) (XM.evT_str (n := 1000) G hn a2 b2 rfl rfl S.kind (by rfl) (by rfl) (by decide) (Nat.le_refl _)) (by decide) (by decide +kernel)) (XM.evT_c (n := 1) (by decide)) (by decide) (by decide +kernel)) (XM.evT_str (n := 1000) G hn a3 b3 rfl rfl S.kind (by rfl) (by rfl) (by decide) (Nat.le_refl _)) (by decide) (by decide +kernel)) }
theorem tx_mk {w : World} {K : PySem.W.Frag} {h : Heap} {mg : Str → Option Value} (X : K.In h) (G : h.Ns mainGlobals mg) (c : XH.SaysY fa fn ts fi ex w K) : Tx R.prog K mg where
    f_fits := c.t.d.def_ 0 (d := fnD0) rfl
    g_fits := He.glo_ok X G (c.t.d.fact 0 (f := .glo "fits") rfl)
    f_encode := c.t.d.def_ 1 (d := fnD1) rfl
    g_encode := He.glo_ok X G (c.t.d.fact 1 (f := .glo "encode") rfl)
    f_decode := c.t.d.def_ 2 (d := fnD2) rfl
    g_decode := He.glo_ok X G (c.t.d.fact 2 (f := .glo "decode") rfl)
    f_size_of := c.t.d.def_ 3 (d := fnD3) rfl
    g_size_of := He.glo_ok X G (c.t.d.fact 3 (f := .glo "size_of") rfl)
    f__law_number := c.t.d.def_ 4 (d := fnD4) rfl
    g__law_number := He.glo_ok X G (c.t.d.fact 4 (f := .glo "_law_number") rfl)
    f__law_ops := c.t.d.def_ 5 (d := fnD5) rfl
    g__law_ops := He.glo_ok X G (c.t.d.fact 5 (f := .glo "_law_ops") rfl)
    f__law_most := c.t.d.def_ 6 (d := fnD6) rfl
    g__law_most := He.glo_ok X G (c.t.d.fact 6 (f := .glo "_law_most") rfl)
    f__law_fits := c.t.d.def_ 7 (d := fnD7) rfl
    g__law_fits := He.glo_ok X G (c.t.d.fact 7 (f := .glo "_law_fits") rfl)
    f__law_is := c.t.d.def_ 8 (d := fnD8) rfl
    g__law_is := He.glo_ok X G (c.t.d.fact 8 (f := .glo "_law_is") rfl)
    f__law_parts := c.t.d.def_ 9 (d := fnD9) rfl
    g__law_parts := He.glo_ok X G (c.t.d.fact 9 (f := .glo "_law_parts") rfl)
    f__law_decoded := c.t.d.def_ 10 (d := fnD10) rfl
    g__law_decoded := He.glo_ok X G (c.t.d.fact 10 (f := .glo "_law_decoded") rfl)
    f__law_encoded := c.t.d.def_ 11 (d := fnD11) rfl
    g__law_encoded := He.glo_ok X G (c.t.d.fact 11 (f := .glo "_law_encoded") rfl)
    f_law := c.t.d.def_ 12 (d := fnD12) rfl
    g_law := He.glo_ok X G (c.t.d.fact 12 (f := .glo "law") rfl)
    g_MerestoneError := He.glo_ok X G (c.t.d.fact 13 (f := .glo "MerestoneError") rfl)
    g_BadCode := He.glo_ok X G (c.t.d.fact 14 (f := .glo "BadCode") rfl)
    e_BadCode := ⟨XH.excT_of (M.ex_at c.more 0 rfl) (c.ini_ 0 (d := fiD0) rfl), es_BadCode⟩
    x_BadCode := L2.xfB_ok (M.ex_at c.more 1 rfl)
    i_BadCode := XH.excCB_ok (M.ex_at c.more 2 rfl)
    nf_BadCode_op := of_decide_eq_true (M.ex_at c.more 3 rfl)
    nf_BadCode_a := of_decide_eq_true (M.ex_at c.more 4 rfl)
    nf_BadCode_b := of_decide_eq_true (M.ex_at c.more 5 rfl)
    nf_BadCode_c := of_decide_eq_true (M.ex_at c.more 6 rfl)
    exm_BadCode_BadCode := of_decide_eq_true (M.ex_at c.more 7 rfl)
    kit_BadCode_MerestoneError := of_decide_eq_true (M.ex_at c.more 8 rfl)
    kit_BadCode_ValueError := of_decide_eq_true (M.ex_at c.more 9 rfl)
    g_OPS := ⟨_, He.glo_ok X G (c.t.d.fact 15 (f := .glo "OPS") rfl), rfl⟩
    q_OPS := fun H => He.tupB_ok (M.ex_at c.more 10 rfl) H
    o_OPS := XH.tupOB_ok (M.ex_at c.more 11 rfl)
    g_KERNEL_ONLY := ⟨_, He.glo_ok X G (c.t.d.fact 16 (f := .glo "KERNEL_ONLY") rfl), rfl⟩
    q_KERNEL_ONLY := fun H => He.tupB_ok (M.ex_at c.more 12 rfl) H
    g_NONE := ⟨_, He.glo_ok X G (c.t.d.fact 17 (f := .glo "NONE") rfl), rfl⟩
    q_NONE := fun H => He.tupB_ok (M.ex_at c.more 13 rfl) H
    g_ONE := ⟨_, He.glo_ok X G (c.t.d.fact 18 (f := .glo "ONE") rfl), rfl⟩
    q_ONE := fun H => He.tupB_ok (M.ex_at c.more 14 rfl) H
    g_TWO := ⟨_, He.glo_ok X G (c.t.d.fact 19 (f := .glo "TWO") rfl), rfl⟩
    q_TWO := fun H => He.tupB_ok (M.ex_at c.more 15 rfl) H
    g_THREE := ⟨_, He.glo_ok X G (c.t.d.fact 20 (f := .glo "THREE") rfl), rfl⟩
    q_THREE := fun H => He.tupB_ok (M.ex_at c.more 16 rfl) H
    g_READABLE := M.gc_int X G (c.t.d.fact 21 (f := .int "READABLE" 7) rfl)
    g_WRITABLE := M.gc_int X G (c.t.d.fact 22 (f := .int "WRITABLE" 5) rfl)
    b_int := He.free_ok X G (c.t.d.fact 23 (f := .free "int") rfl)
    b_bool := He.free_ok X G (c.t.d.fact 24 (f := .free "bool") rfl)
    b_str := He.free_ok X G (c.t.d.fact 25 (f := .free "str") rfl)
    b_len := He.free_ok X G (c.t.d.fact 26 (f := .free "len") rfl)
    b_range := He.free_ok X G (c.t.d.fact 27 (f := .free "range") rfl)
    b_min := He.free_ok X G (c.t.d.fact 28 (f := .free "min") rfl)
    b_isinstance := He.free_ok X G (c.t.d.fact 29 (f := .free "isinstance") rfl)
    b_tuple := He.free_ok X G (c.t.d.fact 30 (f := .free "tuple") rfl)
    b_ValueError := He.free_ok X G (c.t.d.fact 31 (f := .free "ValueError") rfl)
    b_super := He.free_ok X G (c.t.d.fact 32 (f := .free "super") rfl)
end K01
open PySem PySem.W PySem.Calls PyProof.Rows
set_option maxHeartbeats 0 in
theorem PySem.Challenge.cw_merestone_k01_instructions_and_their_wor_holds : PySem.Challenge.rw_merestone_k01_instructions_and_their_wor.Holds := by
  w_on; o_law
  refine HandSHeadRun.head_any (r := OpenLaw.row PySem.Challenge.rw_merestone_k01_instructions_and_their_wor) (q := view (OpenLaw.row PySem.Challenge.rw_merestone_k01_instructions_and_their_wor).prog [25]) (H := K01.hk) (ob := K01.ob) (M := 40000) (loose := K01.names) (d := HandSHeadRun.topDef (OpenLaw.row PySem.Challenge.rw_merestone_k01_instructions_and_their_wor).prog 25) (kwd := []) K01.ob_eq
    (by kernel_rfl) (fun s => by kernel_rfl) K01.run (by kernel_rfl) (by kernel_rfl) (by kernel_rfl) (by rfl) (by first | assumption | decide +kernel) (by decide +kernel) ⟨rfl, rfl, rfl, rfl, rfl, by decide +kernel⟩ ?hw ?hc
  case hw => w_witness2
  case hc =>
    refine M.walk_end (l := PySem.Challenge.rw_merestone_k01_instructions_and_their_wor) (n := 63) (k := 6) (x := "script") (CX := fun _ => L2.CX0) rfl (by decide) (by kernel_rfl) ⟨rfl, by decide, by decide⟩ ?F (fun _ _ _ _ _ z => z)
    intro w mg fa h Y G hmg0
    obtain ⟨K, KX, c⟩ := Y
    have hmg : mg ("law" : PySem.Str) = some (.ref fa) := by
      have e : (HandSHeadRun.topDef (OpenLaw.row PySem.Challenge.rw_merestone_k01_instructions_and_their_wor).prog 25).name = ("law" : PySem.Str) := by kernel_rfl
      rw [← e]
      exact hmg0
    have T := K01.tx_mk KX G c
    have e := hmg.symm.trans T.g_law
    cases e
    obtain ⟨fd, F⟩ := T.f_law
    exact ⟨K, fd, K01.sp_law K, KX, fun s u => L2.FunD.bindsA (ps := ["script"]) F (fun _ _ _ _ _ _ us hl => match us, hl with | [_], _ => rfl) s [u] rfl, fun H a ns hl _ hS => ⟨a, ns, rfl, hS, hl, fun _ => rfl⟩, fun base KB GB => K01.ok_law T F⟩
