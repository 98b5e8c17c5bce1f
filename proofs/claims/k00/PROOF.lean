import PyProof.Rows.All
import Wide.All
import OpenK.AllK
import Wide.FinOn
import KE.KStateDown
import Lean
import HandS.ForMost
import HandS.Flow
import HandS.Style
import HandS.Exc
import HandS.ExcOwn
import HandS.TryOnly
import HandS.WordsExc
import HandS.Codes
import HandS.Steps
import HandS.TupAny
import HandS.TupMul
import HandS.IsInst
import HandS.Defaults
import HandS.More
import HandS.Wide
import HandS.Conv
import HandS.Head0
import HandS.Head1
import HandS.Head2
import HandS.HeadEnd
import HandS.HeadHook1
import HandS.HeadHook2
import HandS.HeadHook3
import HandS.HeadHook4
import PySem.Challenge.RW_merestone_k00_words_modulo_65536
set_option Elab.async false
set_option linter.all false
set_option maxRecDepth 100000
set_option maxHeartbeats 4000000
namespace M
open PySem PySem.Spec PyProof.Rows L2
abbrev St := L2.St
/-! ### named rules -/
def rInt1 : List V → Hp → VK → Prop := fun xs H Q => (∃ i, xs = [.int i] ∧ Q (.int i) H) ∨ ∃ k, xs = [.bl k] ∧ Q (.int (if k then 1 else 0)) H
def rStrI : List V → Hp → VK → Prop := fun xs H Q => ∃ i, xs = [.int i] ∧ i.natAbs.log2 < 1920 ∧ Q (.str (toString i)) H
def rMax2 : List V → Hp → VK → Prop := fun xs H Q => ∃ i j, xs = [.int i, .int j] ∧ Q (.int (if j > i then j else i)) H
def rMin2 : List V → Hp → VK → Prop := fun xs H Q => ∃ i j, xs = [.int i, .int j] ∧ Q (.int (if j < i then j else i)) H
def rLenQ (K : PySem.W.Frag) : List V → Hp → VK → Prop := fun xs H Q => ∃ p ys, xs = [.ref p] ∧ (SqL K H p ys ∨ SqT K H p ys) ∧ Q (.int ys.length) H
def rLenZ : List V → Hp → VK → Prop := fun xs H Q => ∃ z : Str, xs = [.str z] ∧ z.length ≤ sizeLine ∧ Q (.int z.length) H
def rListQ (K : PySem.W.Frag) : List V → Hp → VK → Prop := fun xs H Q => ∃ p ys, xs = [.ref p] ∧ (SqL K H p ys ∨ SqT K H p ys) ∧ ∀ l, H l = none → Q (.ref l) (upd H l (.lst ys))
def rTupQ (K : PySem.W.Frag) : List V → Hp → VK → Prop := fun xs H Q => ∃ p ys, xs = [.ref p] ∧ ((SqL K H p ys ∧ ∀ l, H l = none → Q (.ref l) (upd H l (.tup ys))) ∨ (SqT K H p ys ∧ Q (.ref p) H))
def rAddZ : R2 := fun x y H Q => ∃ i j, x = .str i ∧ y = .str j ∧ i.length + j.length ≤ sizeLine ∧ Q (.str (i ++ j)) H
section
variable {X : Cx}
theorem call_int : CallR X (.type "int") rInt1 := call_int1
theorem call_strI : CallR X (.type "str") rStrI := call_str_int
theorem call_max2 (hc : X.calm = true) : CallR X (.builtin "max") rMax2 := L2.call_max2 hc
theorem call_min2 (hc : X.calm = true) : CallR X (.builtin "min") rMin2 := L2.call_min2 hc
theorem call_len : CallR X (.builtin "len") (rLenQ X.K) := call_len_seq
theorem call_lenS : CallR X (.builtin "len") rLenZ := call_len_str
theorem call_list : CallR X (.type "list") (rListQ X.K) := call_list_of
theorem call_tuple : CallR X (.type "tuple") (rTupQ X.K) := call_tuple_of
theorem op_addS : OpR X (binaryOp .Add) rAddZ := op_add_str
theorem call_isi : CallR X (.builtin "isinstance") (rIsi X.K) := L2.call_isi
def tTruV (K : PySem.W.Frag) (ta : TE) : TT := fun σ H Q => ta σ H fun x H' => ∃ k, TruV K x H' k ∧ Q k H'
theorem pt_tru {a : Expr} {ta : TE} (ha : PE X a ta) (he : ∀ whole, isTrue a X.env whole = (do let v ← whole; standAt a.pos; holding [v] (truthy v)) := by intro _; rfl) : PT X a (tTruV X.K ta) := pt_truth ha he
end
/-! ### steps of a reading -/
section
variable {σ : St} {H : Hp} {Q : VK} {i : Nat} {v x y : V} {ta tb tc te : TE} {t u : TT} {r r' : R2} {tr tl : TA} {K : PySem.W.Frag}
theorem x_var (h : σ[i]? = some (some v)) (k : Q v H) : tVar i σ H Q := ⟨v, h, k⟩
theorem x_c (k : Q v H) : tC v σ H Q := k
theorem x_op (k : ta σ H fun x H1 => tb σ H1 fun y H2 => r x y H2 Q) : tOp r ta tb σ H Q := k
theorem x_un {r : V → Hp → VK → Prop} (k : ta σ H fun x H1 => r x H1 Q) : tUn r ta σ H Q := k
theorem x_rI0 {g : Int → Int → V} {a b : Int} (k : Q (g a b) H) : rI0 g (.int a) (.int b) H Q := ⟨a, b, rfl, rfl, k⟩
theorem x_rI {C : Int → Int → Prop} {g : Int → Int → V} {a b : Int} (c : C a b) (k : Q (g a b) H) : rI C g (.int a) (.int b) H Q := ⟨a, b, rfl, rfl, c, k⟩
theorem x_rU {g : Int → V} {a : Int} (k : Q (g a) H) : rU g (.int a) H Q := ⟨a, rfl, k⟩
theorem x_eqI {a b : Int} (k : Q (.bl (decide (a = b))) H) : rEq (.int a) (.int b) H Q := ⟨rfl, by
  have e : decide (V.int a = V.int b) = decide (a = b) := by
    by_cases h : a = b
    · subst h; simp
    · rw [decide_eq_false h, decide_eq_false (fun q => h (V.int.inj q))]
  rw [e]; exact k⟩
theorem x_neI {a b : Int} (k : Q (.bl (decide (a ≠ b))) H) : rNe (.int a) (.int b) H Q := ⟨rfl, by
  have e : (!decide (V.int a = V.int b)) = decide (a ≠ b) := by
    by_cases h : a = b
    · subst h; simp
    · rw [decide_eq_false (fun q => h (V.int.inj q)), decide_eq_true h]; rfl
  rw [e]; exact k⟩
theorem x_eqS {a b : Str} (k : Q (.bl (decide (a = b))) H) : rEq (.str a) (.str b) H Q := ⟨rfl, by
  have e : decide (V.str a = V.str b) = decide (a = b) := by
    by_cases h : a = b
    · subst h; simp
    · rw [decide_eq_false h, decide_eq_false (fun q => h (V.str.inj q))]
  rw [e]; exact k⟩
theorem x_neS {a b : Str} (k : Q (.bl (decide (a ≠ b))) H) : rNe (.str a) (.str b) H Q := ⟨rfl, by
  have e : (!decide (V.str a = V.str b)) = decide (a ≠ b) := by
    by_cases h : a = b
    · subst h; simp
    · rw [decide_eq_false (fun q => h (V.str.inj q)), decide_eq_true h]; rfl
  rw [e]; exact k⟩
theorem x_eqB {a b : Bool} (k : Q (.bl (decide (a = b))) H) : rEq (.bl a) (.bl b) H Q := ⟨rfl, by
  have e : decide (V.bl a = V.bl b) = decide (a = b) := by cases a <;> cases b <;> rfl
  rw [e]; exact k⟩
theorem x_neB {a b : Bool} (k : Q (.bl (decide (a ≠ b))) H) : rNe (.bl a) (.bl b) H Q := ⟨rfl, by
  have e : (!decide (V.bl a = V.bl b)) = decide (a ≠ b) := by cases a <;> cases b <;> rfl
  rw [e]; exact k⟩
/-- a value that is to be a bool -/
def isB (x : V) (H : Hp) (Q : Bool → Hp → Prop) : Prop := ∃ k, x = .bl k ∧ Q k H
theorem x_isB {b : Bool} {Q : Bool → Hp → Prop} (k : Q b H) : isB (.bl b) H Q := ⟨b, rfl, k⟩
theorem x_test {Q : Bool → Hp → Prop} (k : te σ H fun x H1 => isB x H1 Q) : tTest te σ H Q := k
theorem x_tB {Q : Bool → Hp → Prop} (k : te σ H fun x H1 => isB x H1 Q) : tB te σ H Q := k
theorem x_not {Q : Bool → Hp → Prop} (k : t σ H fun c H1 => Q (!c) H1) : tNot t σ H Q := k
/-- two ways -/
def ifB (b : Bool) (A B : Prop) : Prop := if b = true then A else B
theorem x_ifT {A B : Prop} (k : A) : ifB true A B := by unfold ifB; rw [if_pos rfl]; exact k
theorem x_ifF {A B : Prop} (k : B) : ifB false A B := by unfold ifB; rw [if_neg Bool.false_ne_true]; exact k
theorem x_if {b : Bool} {A B : Prop} (h1 : b = true → A) (h2 : b = false → B) : ifB b A B := by
  cases b with
  | true => exact x_ifT (h1 rfl)
  | false => exact x_ifF (h2 rfl)
theorem x_ifD {p : Prop} [Decidable p] {A B : Prop} (h1 : p → A) (h2 : ¬ p → B) : ifB (decide p) A B := x_if (fun h => h1 (of_decide_eq_true h)) fun h => h2 (of_decide_eq_false h)
theorem x_ifN {p : Prop} [Decidable p] {A B : Prop} (h1 : ¬ p → A) (h2 : p → B) : ifB (!decide p) A B := x_if (fun h => h1 (of_decide_eq_false (by simpa using h))) fun h => h2 (of_decide_eq_true (by simpa using h))
theorem x_ifNB {b : Bool} {A B : Prop} (k : ifB b B A) : ifB (!b) A B := by
  cases b with
  | true => exact k
  | false => exact k
theorem x_ifTD {p : Prop} [Decidable p] {A B : Prop} (h : p) (k : A) : ifB (decide p) A B := by rw [decide_eq_true h]; exact x_ifT k
theorem x_ifFD {p : Prop} [Decidable p] {A B : Prop} (h : ¬ p) (k : B) : ifB (decide p) A B := by rw [decide_eq_false h]; exact x_ifF k
theorem x_and {Q : Bool → Hp → Prop} (k : t σ H fun c H1 => ifB c (u σ H1 Q) (Q false H1)) : tAnd t u σ H Q := k
theorem x_or {Q : Bool → Hp → Prop} (k : t σ H fun c H1 => ifB c (Q true H1) (u σ H1 Q)) : tOr t u σ H Q := k
theorem x_andV (k : ta σ H fun x H1 => isB x H1 fun c H1 => ifB c (tb σ H1 Q) (Q (.bl false) H1)) : tAndV ta tb σ H Q := k
theorem x_orV (k : ta σ H fun x H1 => isB x H1 fun c H1 => ifB c (Q (.bl true) H1) (tb σ H1 Q)) : tOrV ta tb σ H Q := k
theorem x_notV (k : ta σ H fun x H1 => isB x H1 fun c H1 => Q (.bl (!c)) H1) : tNotV ta σ H Q := k
theorem x_ifE (k : t σ H fun c H1 => ifB c (ta σ H1 Q) (tb σ H1 Q)) : tIf t ta tb σ H Q := k
theorem x_chain (k : ta σ H fun x H1 => tb σ H1 fun y H2 => r x y H2 fun z H3 => isB z H3 fun c H3 => ifB c (tc σ H3 fun w H4 => r' y w H4 Q) (Q (.bl false) H3)) : tChain r r' ta tb tc σ H Q := by
  unfold tChain
  exact k
theorem x_isN (k : Q (.bl (decide (x = .non))) H) : rIsN x .non H Q := ⟨rfl, k⟩
theorem x_notN (k : Q (.bl (!decide (x = .non))) H) : rNotN x .non H Q := ⟨rfl, k⟩
theorem x_nil {Q : List V → Hp → Prop} (k : Q [] H) : tNil σ H Q := k
theorem x_cons {Q : List V → Hp → Prop} (k : te σ H fun x H1 => tr σ H1 fun xs H2 => Q (x :: xs) H2) : tCons te tr σ H Q := k
theorem x_call {sp : Sp} {E : XK} (k : tr σ H fun vs H1 => sp vs H1 Q E) : tCall sp [] E tr σ H Q := by
  show tr σ H fun vs H1 => sp (vs ++ []) H1 Q E
  have e : (fun (vs : List V) (H1 : Hp) => sp (vs ++ []) H1 Q E) = fun vs H1 => sp vs H1 Q E := by
    funext vs H1
    rw [List.append_nil]
  rw [e]
  exact k
theorem x_callB {r : List V → Hp → VK → Prop} (k : tr σ H fun vs H1 => r vs H1 Q) : tCB r tr σ H Q := k
theorem x_int {a : Int} (k : Q (.int a) H) : rInt1 [.int a] H Q := Or.inl ⟨a, rfl, k⟩
theorem x_intB {b : Bool} (k : Q (.int (if b then 1 else 0)) H) : rInt1 [.bl b] H Q := Or.inr ⟨b, rfl, k⟩
theorem x_max2 {a b : Int} (k : Q (.int (if b > a then b else a)) H) : rMax2 [.int a, .int b] H Q := ⟨a, b, rfl, k⟩
theorem x_min2 {a b : Int} (k : Q (.int (if b < a then b else a)) H) : rMin2 [.int a, .int b] H Q := ⟨a, b, rfl, k⟩
theorem x_lenL {p : Addr} {ys : List V} (h : SqL K H p ys) (k : Q (.int ys.length) H) : rLenQ K [.ref p] H Q := ⟨p, ys, rfl, .inl h, k⟩
theorem x_lenT {p : Addr} {ys : List V} (h : SqT K H p ys) (k : Q (.int ys.length) H) : rLenQ K [.ref p] H Q := ⟨p, ys, rfl, .inr h, k⟩
theorem x_lenZ {z : Str} (h : z.length ≤ sizeLine) (k : Q (.int z.length) H) : rLenZ [.str z] H Q := ⟨z, rfl, h, k⟩
theorem x_ixL {p : Addr} {xs : List V} {j : Int} (h : SqL K H p xs) (ha : atI xs j = some v) (k : Q v H) : rIxL K (.ref p) (.int j) H Q := ⟨p, xs, j, v, rfl, rfl, h, ha, k⟩
theorem x_ixT {p : Addr} {xs : List V} {j : Int} (h : SqT K H p xs) (ha : atI xs j = some v) (k : Q v H) : rIxT K (.ref p) (.int j) H Q := ⟨p, xs, j, v, rfl, rfl, h, ha, k⟩
/-! new objects: the heap behind is a letter -/
theorem x_lst (k : tr σ H fun xs H1 => xs.length ≤ sizeLine ∧ ∀ p H2, H1 p = none → Same H1 H2 → H2 p = some (.lst xs) → Q (.ref p) H2) (mono : ∀ (Q Q' : List V → Hp → Prop), (∀ xs H1, Q xs H1 → Q' xs H1) → tr σ H Q → tr σ H Q') : tLst tr σ H Q :=
  mono _ _ (fun xs H1 ⟨h1, h2⟩ => ⟨h1, fun p hp => h2 p _ hp (fun b o e => by rw [upd_ne (ne_of_none e hp)]; exact e) upd_same⟩) k
end
theorem same_new {H : Hp} {p : Addr} {o : HO} (hp : H p = none) : Same H (upd H p o) := fun b u e => by rw [upd_ne (ne_of_none e hp)]; exact e
/-- a new list from values at hand -/
def NewL (xs : List V) (H : Hp) (Q : VK) : Prop := xs.length ≤ sizeLine ∧ ∀ p, H p = none → Q (.ref p) (upd H p (.lst xs))
def NewT (xs : List V) (H : Hp) (Q : VK) : Prop := xs.length ≤ sizeLine ∧ ∀ p, H p = none → Q (.ref p) (upd H p (.tup xs))
section
variable {σ : St} {H : Hp} {Q : VK} {i : Nat} {v x y : V} {ta tb tc te : TE} {t u : TT} {tr tl : TA} {K : PySem.W.Frag} {nx bk ct : St → Hp → Prop} {rt : VK} {ts tu : TS} {g : TG}
theorem x_lst' (k : tr σ H fun xs H1 => NewL xs H1 Q) : tLst tr σ H Q := k
theorem x_tup' (k : tr σ H fun xs H1 => NewT xs H1 Q) : tTup tr σ H Q := k
theorem x_newL {xs : List V} (h : xs.length ≤ sizeLine) (k : ∀ p H2, H p = none → Same H H2 → H2 p = some (.lst xs) → Q (.ref p) H2) : NewL xs H Q := ⟨h, fun p hp => k p _ hp (same_new hp) upd_same⟩
theorem x_newT {xs : List V} (h : xs.length ≤ sizeLine) (k : ∀ p H2, H p = none → Same H H2 → H2 p = some (.tup xs) → Q (.ref p) H2) : NewT xs H Q := ⟨h, fun p hp => k p _ hp (same_new hp) upd_same⟩
theorem x_listL {p : Addr} {ys : List V} (h : SqL K H p ys) (k : ∀ q H2, H q = none → Same H H2 → H2 q = some (.lst ys) → Q (.ref q) H2) : rListQ K [.ref p] H Q := ⟨p, ys, rfl, .inl h, fun q hq => k q _ hq (same_new hq) upd_same⟩
theorem x_listT {p : Addr} {ys : List V} (h : SqT K H p ys) (k : ∀ q H2, H q = none → Same H H2 → H2 q = some (.lst ys) → Q (.ref q) H2) : rListQ K [.ref p] H Q := ⟨p, ys, rfl, .inr h, fun q hq => k q _ hq (same_new hq) upd_same⟩
theorem x_cat {p q : Addr} {xs ys : List V} (h1 : H p = some (.lst xs)) (h2 : H q = some (.lst ys)) (hl : xs.length + ys.length ≤ sizeLine) (k : ∀ l H2, H l = none → Same H H2 → H2 l = some (.lst (xs ++ ys)) → Q (.ref l) H2) : rCat (.ref p) (.ref q) H Q :=
  ⟨p, q, xs, ys, rfl, rfl, h1, h2, hl, fun l hl => k l _ hl (same_new hl) upd_same⟩
/-! statements -/
theorem x_seq (k : ts ⟨tu ⟨nx, rt, bk, ct⟩, rt, bk, ct⟩ σ H) : tSeq ts tu ⟨nx, rt, bk, ct⟩ σ H := k
theorem x_next (k : nx σ H) : tNext ⟨nx, rt, bk, ct⟩ σ H := k
theorem x_brk (k : bk σ H) : tBreak ⟨nx, rt, bk, ct⟩ σ H := k
theorem x_cont (k : ct σ H) : tCont ⟨nx, rt, bk, ct⟩ σ H := k
theorem x_drop (k : te σ H fun _ H1 => nx σ H1) : tDrop te ⟨nx, rt, bk, ct⟩ σ H := k
theorem x_ret (k : te σ H rt) : tRet te ⟨nx, rt, bk, ct⟩ σ H := k
theorem x_retN (k : rt .non H) : tRetN ⟨nx, rt, bk, ct⟩ σ H := k
theorem x_ifS (k : t σ H fun c H1 => ifB c (ts ⟨nx, rt, bk, ct⟩ σ H1) (tu ⟨nx, rt, bk, ct⟩ σ H1)) : tIfS t ts tu ⟨nx, rt, bk, ct⟩ σ H := k
theorem x_asg (k : te σ H fun x H1 => g x σ H1 nx) : tAsg te g ⟨nx, rt, bk, ct⟩ σ H := k
theorem x_gname {Q : St → Hp → Prop} (k : Q (σ.set i (some x)) H) : gName i x σ H Q := k
end
theorem same_l {K : PySem.W.Frag} {H H' : Hp} {a : Addr} {xs : List V} (e : Same H H') (h : SqL K H a xs) : SqL K H' a xs := e.seq h
end M
namespace M
open PySem PySem.Spec PyProof.Rows L2
section
variable {P : Program} {w : World} {K : PySem.W.Frag} {mg : Str → Option Value} {base : Heap}
/-- a def of the module that lets nothing out -/
theorem cal_mk {x : Str} {st : Stmt} {f : Addr} {N ps : List Str} {k : Nat} {sp : Sp} (F : ∃ fd, FunD K x x (defArgs st) (defBody st) (defScope st) [] [] f fd) (hm : mg x = some (.ref f)) (S : FnScope N ps (defScope st))
    (hb : ∀ (kV doc pm : Value) (an : Option Addr) (cdv ct : Value) (us : List Value), us.length = ps.length → bindArgs (PySem.W.fnOf x x (defArgs st) (defBody st) (defScope st) .none kV doc pm an cdv ct) ⟨us, []⟩ = pure (ps.zip us))
    (len : ∀ vs H Q E, sp vs H Q E → vs.length = ps.length)
    (hbody : ∀ (cdv : Value) (A : Around) (outer : List Env) (s : Shared) (H : Hp) (vs : List V) (Q : VK) (E : XK), Room k (A.deeper (envOfC x (defScope st) s.heap.objs.size f cdv)) → sp vs H Q E →
      ∃ t, PSs (cxOf CX0 P w K mg base N x (defScope st) f cdv A outer s H E).nox (defBody st) t ∧ t ⟨fun _ H' => Q .non H', Q, fun _ _ => False, fun _ _ => False⟩ (start N vs) H) : C8.Cal P w K mg base (k + 1) x sp [] := by
  obtain ⟨fd, F⟩ := F
  refine ⟨f, fd, ps, [], F.ok S len fun cdv A outer s H vs Q E hr h => ?_, hm, F.kp, F.bindsN hb, .nil⟩
  obtain ⟨t, h1, h2⟩ := hbody cdv A outer s H vs Q E hr h
  exact ⟨t, h1.nox, h2⟩
end
end M
namespace M
open PySem PySem.Spec PyProof.Rows L2
section
variable {K : PySem.W.Frag} {h : Heap} {mg : Str → Option Value}
theorem gc_int (X : K.In h) (G : h.Ns mainGlobals mg) {x : Str} {i : Int} (c : (He.Fa.int x i).ok K = true) : ∃ u, mg x = some u ∧ RelV (.int i) u := by
  obtain ⟨t, e⟩ := He.int_ok X G c
  exact ⟨_, e, t, rfl⟩
theorem gc_str (X : K.In h) (G : h.Ns mainGlobals mg) {x z : Str} (c : (He.Fa.str x z).ok K = true) : ∃ u, mg x = some u ∧ RelV (.str z) u := by
  obtain ⟨t, e⟩ := He.str_ok X G c
  exact ⟨_, e, t, rfl⟩
theorem ex_at {l : List (PySem.W.Frag → Bool)} (c : (l.all fun f => f K) = true) (i : Nat) {f : PySem.W.Frag → Bool} (e : l[i]? = some f) : f K = true := List.all_eq_true.mp c f (List.mem_of_getElem? e)
end
/-- the end of a law over a head by facts; the script's bits told -/
theorem walk_end {l : PySem.W.OpenLaw} {n k : Nat} {q : Program} {loose : List Str} {XP : (Str → Option Value) → Heap → Prop} {YP : World → Heap → Prop} {d : DefRec} {CX : World → CXT} {x : Str}
    (hn : l.most = some n) (hn2 : n ≤ sizeLine) (hdf : d.params.defaults = []) (hr : Room k callerA)
    (F : ∀ (w : World) (mg : Str → Option Value) (fa : Addr) (h : Heap), YP w h → h.Ns mainGlobals mg → mg d.name = some (.ref fa) →
      ∃ (K : PySem.W.Frag) (fd : FuncData) (sp : Sp), K.In h ∧ (∀ (s : Shared) (u : Value), BindsTo s fd ⟨[u], []⟩ [(x, u)]) ∧
        (∀ (H : Hp) (a : Addr) (ns : List Int), ns.length ≤ n → Only H → SqL K H a (ns.map V.int) → sp [.ref a] H (fun v _ => v = .bl true) fun _ _ _ => False) ∧
        ∀ base : Heap, K.In base → base.Ns mainGlobals mg → FnOk l.prog w K mg base (CX w) k fa fd [x] sp)
    (hCX : ∀ (w : World) (H : Hp) (s : Shared) (e : Value) (s' : Shared), CX w [] H s (fun _ _ _ => False) e s' → False) :
    PySem.W.WalkO q loose XP YP l.row.toRowW d [] (fun f vs => PySem.call f vs) := by
  refine Att.attach_call hn hdf fun w s₀ s₁ mg mb fa o pm cd doc a vs ns G Y ho hd hcd hmg hobj hints hlen hg => ?_
  obtain ⟨K, fd, sp, KX, hb, hsp, hF⟩ := F w mg fa _ Y G.T.g hmg
  exact law_call KX G.T.g G.T.b G.T.builtins G.T.nolimit hg hobj hints (Nat.le_trans hlen hn2) hr hF hb (fun H hO hS => hsp H a ns hlen hO hS) fun H e s' => hCX w H s₁ e s'
end M
namespace M
open PySem PySem.Spec PyProof.Rows L2
section
variable {K : PySem.W.Frag} {H : Hp} {Q : VK} {x : V} {b : Bool}
theorem x_isi {S T : String} (ty : TyX K H x (.type S)) (h : kitB S T = some b) (k : Q (.bl b) H) : rIsi K [x, .ty T] H Q := ⟨x, .ty T, _, _, b, rfl, .ty T, ty, kit_ty h, k⟩
theorem x_isiII {i : Int} (k : Q (.bl true) H) : rIsi K [.int i, .ty "int"] H Q := x_isi (.base (.int i)) (by decide +kernel) k
theorem x_isiIB {i : Int} (k : Q (.bl false) H) : rIsi K [.int i, .ty "bool"] H Q := x_isi (.base (.int i)) (by decide +kernel) k
theorem x_isiBB {i : Bool} (k : Q (.bl true) H) : rIsi K [.bl i, .ty "bool"] H Q := x_isi (.base (.bl i)) (by decide +kernel) k
theorem x_isiBI {i : Bool} (k : Q (.bl true) H) : rIsi K [.bl i, .ty "int"] H Q := x_isi (.base (.bl i)) (by decide +kernel) k
theorem x_isiSS {z : Str} (k : Q (.bl true) H) : rIsi K [.str z, .ty "str"] H Q := x_isi (.base (.str z)) (by decide +kernel) k
end
theorem atI_of {α : Type} {xs : List α} {i : Int} {v : α} (h0 : 0 ≤ i) (h : xs[i.toNat]? = some v) : atI xs i = some v := by
  have e := atI_nat h
  rw [Int.toNat_of_nonneg h0] at e
  exact e
theorem atI_ints {l : List Int} {i : Int} (h0 : 0 ≤ i) (h1 : i < l.length) : atI (l.map V.int) i = some (.int (l.getD i.toNat 0)) := by
  refine atI_of h0 ?_
  have hl : i.toNat < l.length := by omega
  rw [List.getElem?_map, List.getElem?_eq_getElem hl]
  simp [List.getD, hl]
theorem atI_get {α β : Type} {f : α → β} {l : List α} {i : Int} {v : α} (h0 : 0 ≤ i) (h : l[i.toNat]? = some v) : atI (l.map f) i = some (f v) := by
  refine atI_of h0 ?_
  rw [List.getElem?_map, h]
  rfl
theorem sl4 {n : Nat} (h : n ≤ 100000) : n ≤ sizeLine := by rw [sizeLine_eq]; omega
/-! a for over range(n), range(a, b) -/
section
variable {σ : St} {H : Hp} {nx bk ct : St → Hp → Prop} {rt : VK} {tb : TS} {g : TG} {ta : TA} {K : PySem.W.Frag} {tl : TE}
def rRng1 (R : It → Hp → Prop) (vs : List V) (H1 : Hp) : Prop := ∃ j : Int, vs = [.int j] ∧ -(2 ^ 62) ≤ j ∧ j < 2 ^ 62 ∧ R (Itr 0 j.toNat) H1
/-- Pv: by the turns done -/
theorem x_for1 {n : Int} (hi : ∀ Q : List V → Hp → Prop, Q [.int n] H → ta σ H Q) (h : 0 ≤ n ∧ n < 2 ^ 62) (Pv : Nat → St → Hp → Prop) (h0 : Pv 0 σ H)
    (hs : ∀ (i : Nat) σ' H', (i : Int) < n → Pv i σ' H' → g (.int (i : Int)) σ' H' fun σ2 H2 => tb ⟨Pv (i + 1), rt, nx, Pv (i + 1)⟩ σ2 H2) (hd : ∀ σ' H', Pv n.toNat σ' H' → nx σ' H') : tFor (iRng1 ta) g tb ⟨nx, rt, bk, ct⟩ σ H := by
  refine hi _ ⟨n, rfl, by omega, h.2, ?_⟩
  refine for_range (lo := 0) (n := n.toNat) (D := ⟨nx, rt, bk, ct⟩) Pv h0 (fun i σ' H' hlt hp => ?_) hd
  have e : (0 : Int) + (i : Int) = (i : Int) := Int.zero_add _
  rw [e]
  exact hs i σ' H' (by omega) hp
theorem x_for2 {lo n : Int} (hi : ∀ Q : List V → Hp → Prop, Q [.int lo, .int n] H → ta σ H Q) (h : -(2 ^ 62) ≤ lo ∧ lo < 2 ^ 62 ∧ -(2 ^ 62) ≤ n ∧ n < 2 ^ 62) (Pv : Nat → St → Hp → Prop) (h0 : Pv 0 σ H)
    (hs : ∀ (i : Nat) σ' H', lo + (i : Int) < n → Pv i σ' H' → g (.int (lo + (i : Int))) σ' H' fun σ2 H2 => tb ⟨Pv (i + 1), rt, nx, Pv (i + 1)⟩ σ2 H2) (hd : ∀ σ' H', Pv (n - lo).toNat σ' H' → nx σ' H') : tFor (iRng2 ta) g tb ⟨nx, rt, bk, ct⟩ σ H := by
  refine hi _ ⟨lo, n, rfl, h, ?_⟩
  exact for_range (lo := lo) (n := (n - lo).toNat) (D := ⟨nx, rt, bk, ct⟩) Pv h0 (fun i σ' H' hlt hp => hs i σ' H' (by omega) hp) hd
theorem x_forL {a : Addr} {xs : List V} (hi : ∀ Q : VK, Q (.ref a) H → tl σ H Q) (hx : SqL K H a xs) (Pv : Nat → St → Hp → Prop) (h0 : Pv 0 σ H) (hl : ∀ i σ' H', i ≤ xs.length → Pv i σ' H' → SqL K H' a xs)
    (hs : ∀ i x σ' H', xs[i]? = some x → Pv i σ' H' → g x σ' H' fun σ2 H2 => tb ⟨Pv (i + 1), rt, nx, Pv (i + 1)⟩ σ2 H2) (hd : ∀ σ' H', Pv xs.length σ' H' → nx σ' H') : tFor (iList K tl) g tb ⟨nx, rt, bk, ct⟩ σ H := by
  refine hi _ ⟨a, rfl, ⟨xs, hx⟩, ?_⟩
  exact for_list (K := K) (a := a) (xs := xs) (D := ⟨nx, rt, bk, ct⟩) Pv h0 hl hs hd
end
/-! [elt for x in list] -/
section
variable {σ : St} {H : Hp} {Q : VK} {K : PySem.W.Frag} {tl te : TE} {tt : TT} {g : TG} {vs : List Nat}
theorem x_lcL {a : Addr} {xs ys : List V} (hi : ∀ Q : VK, Q (.ref a) H → tl σ H Q) (hx : SqL K H a xs) (hz : xs.length ≤ 100000) (hy : ys.length = xs.length)
    (hs : ∀ (i : Nat) (x y : V) (H' : Hp), xs[i]? = some x → ys[i]? = some y → Same H H' → g x (wipe σ vs) H' fun σ2 H2 => wipe σ2 vs = wipe σ vs ∧ H2 = H' ∧ ∀ R : VK, R y H' → te σ2 H' R)
    (k : ∀ p H2, H p = none → Same H H2 → H2 p = some (.lst ys) → Q (.ref p) H2) (hg : ∀ x σ H (P P' : St → Hp → Prop), (∀ σ H, P σ H → P' σ H) → g x σ H P → g x σ H P') : tLc (iList K tl) g tYes te vs σ H Q := by
  refine hi _ ⟨a, rfl, ⟨xs, hx⟩, fun D hD => ?_⟩
  refine lc_list (K := K) (a := a) (xs := xs) (fun i H' => Same H H' ∧ H' D = some (.lst (ys.take i))) ⟨same_new hD, upd_same⟩ (fun i H' _ p => p.1.seq hx) (fun i x H' hi p => ?_) (fun H' p => ?_)
  · have hlt : i < ys.length := by rw [hy]; exact (List.getElem?_eq_some_iff.mp hi).1
    have hyi : ys[i]? = some ys[i] := List.getElem?_eq_getElem hlt
    refine hg _ _ _ _ _ (fun σ2 H2 q => ?_) (hs i x ys[i] H' hi hyi p.1)
    obtain ⟨q1, rfl, q2⟩ := q
    refine ⟨q1, ?_⟩
    refine q2 _ ⟨ys.take i, p.2, ?_, ?_, ?_⟩
    · rw [List.length_take, sizeLine_eq]; omega
    · intro b o e
      have hb : b ≠ D := ne_of_none e hD
      rw [upd_ne hb]
      exact p.1 b o e
    · rw [upd_same, ← List.take_append_getElem hlt]
  · have e : ys.take xs.length = ys := by rw [← hy]; exact List.take_length
    rw [e] at p
    exact k D H' hD p.1 p.2
end
end M
namespace M
open PySem PySem.Spec PyProof.Rows L2
section
variable {σ : St} {H : Hp} {Q : VK} {K : PySem.W.Frag} {ta : TE} {nx bk ct : St → Hp → Prop} {rt : VK} {ts tu : TS}
/-- truth of a value -/
def isTru (K : PySem.W.Frag) (x : V) (H : Hp) (Q : Bool → Hp → Prop) : Prop := ∃ k, TruV K x H k ∧ Q k H
theorem x_truV {Q : Bool → Hp → Prop} (k : ta σ H fun x H1 => isTru K x H1 Q) : tTruV K ta σ H Q := k
theorem x_truL {Q : Bool → Hp → Prop} {p : Addr} {xs : List V} (h : SqL K H p xs) (k : Q (!xs.isEmpty) H) : isTru K (.ref p) H Q := ⟨_, .inl ⟨xs, h, rfl⟩, k⟩
theorem x_truT {Q : Bool → Hp → Prop} {p : Addr} {xs : List V} (h : SqT K H p xs) (k : Q (!xs.isEmpty) H) : isTru K (.ref p) H Q := ⟨_, .inr (.inl ⟨xs, h, rfl⟩), k⟩
theorem x_truI {Q : Bool → Hp → Prop} {i : Int} (k : Q (decide (i ≠ 0)) H) : isTru K (.int i) H Q := ⟨_, rfl, by
  have e : (i != 0) = decide (i ≠ 0) := by
    by_cases h : i = 0
    · subst h; rfl
    · rw [decide_eq_true h]; simpa using h
  rw [e]; exact k⟩
theorem x_cut (Md : St → Hp → Prop) (h : ts ⟨Md, rt, bk, ct⟩ σ H) (k : ∀ σ' H', Md σ' H' → tu ⟨nx, rt, bk, ct⟩ σ' H') : C8.tCut ts tu ⟨nx, rt, bk, ct⟩ σ H := ⟨Md, h, k⟩
theorem x_isBl {a b : Bool} (k : Q (.bl (decide (a = b))) H) : rIsB (.bl a) (.bl b) H Q := ⟨a, b, rfl, rfl, k⟩
theorem x_notBl {a b : Bool} (k : Q (.bl (!decide (a = b))) H) : rNotB (.bl a) (.bl b) H Q := ⟨a, b, rfl, rfl, k⟩
end
theorem gName_mono {i : Nat} (x : V) (σ : St) (H : Hp) (P P' : St → Hp → Prop) (h : ∀ σ H, P σ H → P' σ H) (q : gName i x σ H P) : gName i x σ H P' := h _ _ q
theorem Same.st {K : PySem.W.Frag} {H H' : Hp} {a : Addr} {xs : List V} (e : Same H H') (h : SqT K H a xs) : SqT K H' a xs := by
  rcases h with (h | ⟨o, h⟩) | h
  · exact .inl (.inl (e _ _ h))
  · exact .inl (.inr ⟨o, e _ _ h⟩)
  · exact .inr h
end M
namespace M
open PySem PySem.Spec PyProof.Rows L2
theorem map_int_get {ns : List Int} {i : Nat} {x : V} (h : (ns.map V.int)[i]? = some x) : ∃ z, ns[i]? = some z ∧ x = .int z := by
  rw [List.getElem?_map] at h
  cases e : ns[i]? with
  | none => rw [e] at h; cases h
  | some z => rw [e] at h; exact ⟨z, rfl, (Option.some.inj h).symm⟩
/-- cells = [int(cell) for cell in script] -/
def cellsOf (d : List Int) (ns : List Int) : List Int := if ns = [] then d else ns
theorem same_hp {H H' : Hp} {a : Addr} {o : HO} (e : Same H H') (h : H a = some o) : H' a = some o := e a o h
theorem x_cut0 {σ : St} {H : Hp} {nx bk ct : St → Hp → Prop} {rt : VK} {ts tu : TS} (h : ts ⟨fun σ' H' => σ' = σ ∧ H' = H, rt, bk, ct⟩ σ H) (k : tu ⟨nx, rt, bk, ct⟩ σ H) : C8.tCut ts tu ⟨nx, rt, bk, ct⟩ σ H :=
  ⟨fun σ' H' => σ' = σ ∧ H' = H, h, fun σ' H' ⟨e1, e2⟩ => by rw [e1, e2]; exact k⟩
/-- the law's def -/
theorem fn_mk {P : Program} {w : World} {K : PySem.W.Frag} {mg : Str → Option Value} {base : Heap} {x : Str} {st : Stmt} {f : Addr} {fd : FuncData} {N ps : List Str} {k : Nat} {sp : Sp} (F : FunD K x x (defArgs st) (defBody st) (defScope st) [] [] f fd) (S : FnScope N ps (defScope st))
    (len : ∀ vs H Q E, sp vs H Q E → vs.length = ps.length)
    (hbody : ∀ (cdv : Value) (A : Around) (outer : List Env) (s : Shared) (H : Hp) (vs : List V) (Q : VK) (E : XK), Room k (A.deeper (envOfC x (defScope st) s.heap.objs.size f cdv)) → sp vs H Q E →
      ∃ t, PSs (cxOf CX0 P w K mg base N x (defScope st) f cdv A outer s H E).nox (defBody st) t ∧ t ⟨fun _ H' => Q .non H', Q, fun _ _ => False, fun _ _ => False⟩ (start N vs) H) : FnOk P w K mg base CX0 (k + 1) f fd ps sp :=
  F.ok S len fun cdv A outer s H vs Q E hr h => by
    obtain ⟨t, h1, h2⟩ := hbody cdv A outer s H vs Q E hr h
    exact ⟨t, h1.nox, h2⟩
end M
namespace K00
open PySem PySem.Spec PyProof.Rows L2
def top (i : Nat) : Stmt := PySem.Challenge.pw_merestone_k00_words_modulo_65536.main.body.getD i (.Pass ⟨0, 0, 0, 0⟩)
abbrev s_is_word : Stmt := (top 3)
abbrev s_wrap : Stmt := (top 4)
abbrev s_signed : Stmt := (top 5)
abbrev s_add : Stmt := (top 6)
abbrev s_sub : Stmt := (top 7)
abbrev s_mul : Stmt := (top 8)
abbrev s_bit_and : Stmt := (top 9)
abbrev s_bit_or : Stmt := (top 10)
abbrev s_bit_xor : Stmt := (top 11)
abbrev s_shift_left : Stmt := (top 12)
abbrev s_shift_right : Stmt := (top 13)
abbrev s__law_number : Stmt := (top 15)
abbrev s__law_word : Stmt := (top 16)
abbrev s__law_is : Stmt := (top 17)
abbrev s__law_bits : Stmt := (top 18)
abbrev s__law_shifts : Stmt := (top 19)
abbrev s_law : Stmt := (top 20)
structure Tx (K : PySem.W.Frag) (mg : Str → Option Value) : Prop where
  f_is_word : ∃ fd, FunD K "is_word" "is_word" (defArgs s_is_word) (defBody s_is_word) (defScope s_is_word) [] [] (He.ga K "is_word") fd
  g_is_word : mg "is_word" = some (.ref (He.ga K "is_word"))
  f_wrap : ∃ fd, FunD K "wrap" "wrap" (defArgs s_wrap) (defBody s_wrap) (defScope s_wrap) [] [] (He.ga K "wrap") fd
  g_wrap : mg "wrap" = some (.ref (He.ga K "wrap"))
  f_signed : ∃ fd, FunD K "signed" "signed" (defArgs s_signed) (defBody s_signed) (defScope s_signed) [] [] (He.ga K "signed") fd
  g_signed : mg "signed" = some (.ref (He.ga K "signed"))
  f_add : ∃ fd, FunD K "add" "add" (defArgs s_add) (defBody s_add) (defScope s_add) [] [] (He.ga K "add") fd
  g_add : mg "add" = some (.ref (He.ga K "add"))
  f_sub : ∃ fd, FunD K "sub" "sub" (defArgs s_sub) (defBody s_sub) (defScope s_sub) [] [] (He.ga K "sub") fd
  g_sub : mg "sub" = some (.ref (He.ga K "sub"))
  f_mul : ∃ fd, FunD K "mul" "mul" (defArgs s_mul) (defBody s_mul) (defScope s_mul) [] [] (He.ga K "mul") fd
  g_mul : mg "mul" = some (.ref (He.ga K "mul"))
  f_bit_and : ∃ fd, FunD K "bit_and" "bit_and" (defArgs s_bit_and) (defBody s_bit_and) (defScope s_bit_and) [] [] (He.ga K "bit_and") fd
  g_bit_and : mg "bit_and" = some (.ref (He.ga K "bit_and"))
  f_bit_or : ∃ fd, FunD K "bit_or" "bit_or" (defArgs s_bit_or) (defBody s_bit_or) (defScope s_bit_or) [] [] (He.ga K "bit_or") fd
  g_bit_or : mg "bit_or" = some (.ref (He.ga K "bit_or"))
  f_bit_xor : ∃ fd, FunD K "bit_xor" "bit_xor" (defArgs s_bit_xor) (defBody s_bit_xor) (defScope s_bit_xor) [] [] (He.ga K "bit_xor") fd
  g_bit_xor : mg "bit_xor" = some (.ref (He.ga K "bit_xor"))
  f_shift_left : ∃ fd, FunD K "shift_left" "shift_left" (defArgs s_shift_left) (defBody s_shift_left) (defScope s_shift_left) [] [] (He.ga K "shift_left") fd
  g_shift_left : mg "shift_left" = some (.ref (He.ga K "shift_left"))
  f_shift_right : ∃ fd, FunD K "shift_right" "shift_right" (defArgs s_shift_right) (defBody s_shift_right) (defScope s_shift_right) [] [] (He.ga K "shift_right") fd
  g_shift_right : mg "shift_right" = some (.ref (He.ga K "shift_right"))
  f__law_number : ∃ fd, FunD K "_law_number" "_law_number" (defArgs s__law_number) (defBody s__law_number) (defScope s__law_number) [] [] (He.ga K "_law_number") fd
  g__law_number : mg "_law_number" = some (.ref (He.ga K "_law_number"))
  f__law_word : ∃ fd, FunD K "_law_word" "_law_word" (defArgs s__law_word) (defBody s__law_word) (defScope s__law_word) [] [] (He.ga K "_law_word") fd
  g__law_word : mg "_law_word" = some (.ref (He.ga K "_law_word"))
  f__law_is : ∃ fd, FunD K "_law_is" "_law_is" (defArgs s__law_is) (defBody s__law_is) (defScope s__law_is) [] [] (He.ga K "_law_is") fd
  g__law_is : mg "_law_is" = some (.ref (He.ga K "_law_is"))
  f__law_bits : ∃ fd, FunD K "_law_bits" "_law_bits" (defArgs s__law_bits) (defBody s__law_bits) (defScope s__law_bits) [] [] (He.ga K "_law_bits") fd
  g__law_bits : mg "_law_bits" = some (.ref (He.ga K "_law_bits"))
  f__law_shifts : ∃ fd, FunD K "_law_shifts" "_law_shifts" (defArgs s__law_shifts) (defBody s__law_shifts) (defScope s__law_shifts) [] [] (He.ga K "_law_shifts") fd
  g__law_shifts : mg "_law_shifts" = some (.ref (He.ga K "_law_shifts"))
  f_law : ∃ fd, FunD K "law" "law" (defArgs s_law) (defBody s_law) (defScope s_law) [] [] (He.ga K "law") fd
  g_law : mg "law" = some (.ref (He.ga K "law"))
  g_MODULUS : ∃ u, mg "MODULUS" = some u ∧ RelV (.int 65536) u
  g_HALF : ∃ u, mg "HALF" = some u ∧ RelV (.int 32768) u
  b_int : mg "int" = none
  b_bool : mg "bool" = none
  b_len : mg "len" = none
  b_range : mg "range" = none
  b_max : mg "max" = none
  b_isinstance : mg "isinstance" = none
local macro_rules | `(tactic| walk_at "s") => `(tactic| first
  | ((with_reducible refine' M.x_var ?xv ?_); (case xv => exact rfl))
  | with_reducible refine M.x_c ?_
  | with_reducible refine M.x_op ?_
  | with_reducible refine M.x_seq ?_
  | with_reducible refine M.x_asg ?_
  | with_reducible refine M.x_gname ?_
  | with_reducible refine M.x_rI0 ?_
  | ((with_reducible refine' M.x_rI ?xc ?_); (case xc => walk_at "side"))
  | with_reducible refine M.x_call ?_
  | with_reducible refine M.x_callB ?_
  | with_reducible refine M.x_cons ?_
  | with_reducible refine M.x_nil ?_
  | with_reducible refine M.x_int ?_
  | with_reducible refine M.x_intB ?_
  | with_reducible refine M.x_ifS ?_
  | with_reducible refine M.x_test ?_
  | with_reducible refine M.x_tB ?_
  | with_reducible refine M.x_isB ?_
  | with_reducible refine M.x_ret ?_
  | with_reducible refine M.x_retN ?_
  | with_reducible refine M.x_next ?_
  | with_reducible refine M.x_brk ?_
  | with_reducible refine M.x_cont ?_
  | with_reducible refine M.x_drop ?_
  | with_reducible refine M.x_eqI ?_
  | with_reducible refine M.x_neI ?_
  | with_reducible refine M.x_eqS ?_
  | with_reducible refine M.x_neS ?_
  | with_reducible refine M.x_eqB ?_
  | with_reducible refine M.x_neB ?_
  | with_reducible refine M.x_ifT ?_
  | with_reducible refine M.x_ifF ?_
  | with_reducible refine M.x_and ?_
  | with_reducible refine M.x_or ?_
  | with_reducible refine M.x_not ?_
  | with_reducible refine M.x_ifNB ?_
  | with_reducible refine M.x_andV ?_
  | with_reducible refine M.x_orV ?_
  | with_reducible refine M.x_notV ?_
  | with_reducible refine M.x_ifE ?_
  | with_reducible refine M.x_chain ?_
  | with_reducible refine M.x_isN ?_
  | with_reducible refine M.x_notN ?_
  | with_reducible refine M.x_un ?_
  | with_reducible refine M.x_rU ?_
  | with_reducible refine M.x_max2 ?_
  | with_reducible refine M.x_min2 ?_
  | with_reducible refine M.x_isiII ?_
  | with_reducible refine M.x_isiIB ?_
  | with_reducible refine M.x_isiBB ?_
  | with_reducible refine M.x_isiSS ?_
  | ((with_reducible refine' M.x_ifTD ?xp ?_); (case xp => first | exact rfl | decide | omega))
  | ((with_reducible refine' M.x_ifFD ?xp ?_); (case xp => first | exact rfl | decide | omega))
  | with_reducible refine M.x_lst' ?_
  | with_reducible refine M.x_tup' ?_)
local macro_rules | `(tactic| walk_at "side") => `(tactic| first
  | decide
  | (show (0 : Int) < _; decide)
  | (show (0 : Int) < _; omega)
  | (show (0 : Int) ≤ _; omega)
  | (exact ⟨by decide, by decide⟩)
  | (exact ⟨by omega, by omega⟩)
  | (exact Or.inr ⟨by decide, by decide⟩)
  | (exact Or.inl ⟨by decide, by decide⟩)
  | (exact Or.inr ⟨by omega, by omega⟩)
  | (exact Or.inl ⟨by omega, by omega⟩)
  | (exact ⟨by decide, by decide, by decide⟩)
  | (exact ⟨by omega, by omega, by omega⟩))
local macro_rules | `(tactic| walk_at "go") => `(tactic| (repeat walk_at "s"))
local macro_rules | `(tactic| walk_at "hp") => `(tactic| first
  | assumption
  | exact upd_same
  | ((refine' M.same_hp ?xe ?xq); (case xe => assumption); (case xq => walk_at "hp")))
local macro_rules | `(tactic| walk_at "seq") => `(tactic| first
  | assumption
  | exact SqL.of (by assumption)
  | ((refine' Same.seq ?xe ?xq); (case xe => assumption); (case xq => walk_at "seq")))
local macro_rules | `(tactic| walk_at "sqt") => `(tactic| first
  | assumption
  | exact SqT.of (by assumption)
  | ((refine' M.Same.st ?xe ?xq); (case xe => assumption); (case xq => walk_at "sqt")))
local macro_rules | `(tactic| walk_at "at") => `(tactic| first
  | exact rfl
  | exact M.atI_ints (by omega) (by omega)
  | exact M.atI_ints (by omega) (by simp; omega))
local macro_rules | `(tactic| walk_at "s") => `(tactic| first
  | with_reducible refine M.x_truV ?_
  | ((with_reducible refine' M.x_truL ?xh ?_); (case xh => walk_at "seq"))
  | with_reducible refine M.x_truI ?_
  | with_reducible refine M.x_isBl ?_
  | with_reducible refine M.x_notBl ?_
  | ((with_reducible refine' M.x_ixL ?xh ?xa ?_); (case xh => walk_at "seq"); (case xa => walk_at "at"))
  | ((with_reducible refine' M.x_ixT ?xh ?xa ?_); (case xh => walk_at "sqt"); (case xa => walk_at "at"))
  | ((with_reducible refine' M.x_lenL ?xh ?_); (case xh => walk_at "seq"))
  | ((with_reducible refine' M.x_lenT ?xh ?_); (case xh => walk_at "sqt"))
  | ((with_reducible refine' M.x_listL ?xh ?_); (case xh => walk_at "seq"))
  | ((with_reducible refine' M.x_newL ?xz ?_); (case xz => exact M.sl4 (by first | decide | simp)))
  | ((with_reducible refine' M.x_newT ?xz ?_); (case xz => exact M.sl4 (by first | decide | simp)))
  | ((with_reducible refine' M.x_cat ?xh ?xi ?xz ?_); (case xh => walk_at "hp"); (case xi => walk_at "hp"); (case xz => exact M.sl4 (by first | decide | simp))))

/-! ## bits, by sums -/
theorem tb_and (x y n : Nat) : (x &&& y) / 2 ^ n % 2 = (x / 2 ^ n % 2) * (y / 2 ^ n % 2) := by
  rw [← Nat.toNat_testBit, ← Nat.toNat_testBit, ← Nat.toNat_testBit, Nat.testBit_and]
  cases x.testBit n <;> cases y.testBit n <;> rfl
def andS (a b : Int) : Nat → Int
  | 0 => 0
  | n + 1 => andS a b n + 2 ^ n * (a / 2 ^ n % 2) * (b / 2 ^ n % 2)
def orS (a b : Int) : Nat → Int
  | 0 => 0
  | n + 1 => orS a b n + 2 ^ n * (if b / 2 ^ n % 2 > a / 2 ^ n % 2 then b / 2 ^ n % 2 else a / 2 ^ n % 2)
def xorS (a b : Int) : Nat → Int
  | 0 => 0
  | n + 1 => xorS a b n + 2 ^ n * (if decide (a / 2 ^ n % 2 ≠ b / 2 ^ n % 2) = true then 1 else 0)
def oneS (a : Int) : Nat → Int
  | 0 => 0
  | n + 1 => oneS a n + 2 ^ n * (a / 2 ^ n % 2)
theorem bit01 (a : Int) (n : Nat) : a / 2 ^ n % 2 = 0 ∨ a / 2 ^ n % 2 = 1 := by omega
theorem andS_eq (x y : Nat) : ∀ n, andS x y n = (((x &&& y) % 2 ^ n : Nat) : Int)
  | 0 => by simp [andS, Nat.mod_one]
  | n + 1 => by
    rw [andS, andS_eq x y n, Nat.mod_pow_succ, tb_and]
    push_cast
    rw [Int.mul_assoc]
theorem oneS_eq (x : Nat) : ∀ n, oneS x n = ((x % 2 ^ n : Nat) : Int)
  | 0 => by simp [oneS, Nat.mod_one]
  | n + 1 => by
    rw [oneS, oneS_eq x n, Nat.mod_pow_succ]
    push_cast
    rfl
theorem orS_eq (a b : Int) : ∀ n, orS a b n = oneS a n + oneS b n - andS a b n
  | 0 => by simp [orS, oneS, andS]
  | n + 1 => by
    rw [orS, oneS, oneS, andS, orS_eq a b n]
    rcases bit01 a n with h | h <;> rcases bit01 b n with g | g <;> rw [h, g] <;> simp <;> omega
theorem xorS_eq (a b : Int) : ∀ n, xorS a b n = oneS a n + oneS b n - 2 * andS a b n
  | 0 => by simp [xorS, oneS, andS]
  | n + 1 => by
    rw [xorS, oneS, oneS, andS, xorS_eq a b n]
    rcases bit01 a n with h | h <;> rcases bit01 b n with g | g <;> rw [h, g] <;> simp <;> omega
theorem bits_are {a b : Int} (ha : 0 ≤ a ∧ a < 65536) (hb : 0 ≤ b ∧ b < 65536) : andS a b 16 = Builtin.bitAnd a b ∧ orS a b 16 = Builtin.bitOr a b ∧ xorS a b 16 = Builtin.bitXor a b := by
  obtain ⟨x, rfl⟩ := Int.eq_ofNat_of_zero_le ha.1
  obtain ⟨y, rfl⟩ := Int.eq_ofNat_of_zero_le hb.1
  have hx : x < 2 ^ 16 := by have := ha.2; omega
  have hy : y < 2 ^ 16 := by have := hb.2; omega
  have e1 : andS (x : Int) y 16 = Builtin.bitAnd x y := by
    rw [andS_eq, PyProof.Rows.bitAnd_pp ha.1 hb.1, Nat.mod_eq_of_lt (Nat.and_lt_two_pow x hy)]
    simp
  have o1 : oneS (x : Int) 16 = x := by rw [oneS_eq, Nat.mod_eq_of_lt hx]
  have o2 : oneS (y : Int) 16 = y := by rw [oneS_eq, Nat.mod_eq_of_lt hy]
  refine ⟨e1, ?_, ?_⟩
  · rw [orS_eq, e1, o1, o2, PyProof.Rows.bitOr_and]
  · rw [xorS_eq, e1, o1, o2, bitXor_and]
def lShift (w : Int) : Nat → Int
  | 0 => w
  | n + 1 => (lShift w n * 2) % 65536
def rShift (w : Int) : Nat → Int
  | 0 => w
  | n + 1 => rShift w n / 2
theorem lShift_eq {w : Int} (h : 0 ≤ w ∧ w < 65536) : ∀ n, lShift w n = w * 2 ^ n % 65536
  | 0 => by rw [lShift, Int.pow_zero, Int.mul_one, Int.emod_eq_of_lt h.1 h.2]
  | n + 1 => by
    rw [lShift, lShift_eq h n, Int.pow_succ, ← Int.mul_assoc]
    generalize w * 2 ^ n = t
    omega
theorem rShift_eq (w : Int) : ∀ n, rShift w n = w / 2 ^ n
  | 0 => by rw [rShift, Int.pow_zero, Int.ediv_one]
  | n + 1 => by
    rw [rShift, rShift_eq w n, Int.pow_succ, ← Int.ediv_ediv_of_nonneg (Int.le_of_lt (Int.pow_pos (by decide)))]

/-! ## words -/
section words
variable {P : Program} {w : World} {K : PySem.W.Frag} {mg : Str → Option Value} {base : Heap}
def sp_is_word : Sp := fun vs H Q _ => ∃ n : Int, vs = [.int n] ∧ Q (.bl (decide (0 ≤ n ∧ n < 65536))) H
theorem go_is_word {n : Int} {H : Hp} {Q : VK} {E : XK} (k : Q (.bl (decide (0 ≤ n ∧ n < 65536))) H) : sp_is_word [.int n] H Q E := ⟨n, rfl, k⟩
def sp_wrap : Sp := fun vs H Q _ => ∃ n : Int, vs = [.int n] ∧ Q (.int (n % 65536)) H
theorem go_wrap {n : Int} {H : Hp} {Q : VK} {E : XK} (k : Q (.int (n % 65536)) H) : sp_wrap [.int n] H Q E := ⟨n, rfl, k⟩
def sp_signed : Sp := fun vs H Q _ => ∃ n : Int, vs = [.int n] ∧ Q (.int (if 32768 ≤ n then n - 65536 else n)) H
theorem go_signed {n : Int} {H : Hp} {Q : VK} {E : XK} (k : Q (.int (if 32768 ≤ n then n - 65536 else n)) H) : sp_signed [.int n] H Q E := ⟨n, rfl, k⟩
def sp_I2 (D : Int → Int → Prop) (f : Int → Int → Int) : Sp := fun vs H Q _ => ∃ a b : Int, vs = [.int a, .int b] ∧ D a b ∧ Q (.int (f a b)) H
theorem go_I2 {D : Int → Int → Prop} {f : Int → Int → Int} {a b : Int} {H : Hp} {Q : VK} {E : XK} (d : D a b) (k : Q (.int (f a b)) H) : sp_I2 D f [.int a, .int b] H Q E := ⟨a, b, rfl, d, k⟩
def small (n : Int) : Prop := 0 ≤ n ∧ n < 65536
abbrev sp_add : Sp := sp_I2 (fun _ _ => True) fun a b => (a + b) % 65536
abbrev sp_sub : Sp := sp_I2 (fun _ _ => True) fun a b => (a - b) % 65536
abbrev sp_mul : Sp := sp_I2 (fun a _ => 0 ≤ a ∧ a < 65536) fun a b => (a * b) % 65536
abbrev sp_bit_and : Sp := sp_I2 (fun _ _ => True) Builtin.bitAnd
abbrev sp_bit_or : Sp := sp_I2 (fun _ _ => True) Builtin.bitOr
abbrev sp_bit_xor : Sp := sp_I2 (fun _ _ => True) Builtin.bitXor
abbrev sp_shift_left : Sp := sp_I2 (fun a b => 0 ≤ a ∧ a < 65536 ∧ 0 ≤ b ∧ b ≤ 15) fun a b => (a * 2 ^ b.toNat) % 65536
abbrev sp_shift_right : Sp := sp_I2 (fun a b => 0 ≤ b) fun a b => a / 2 ^ b.toNat
abbrev M.N_is_word : List Str := ["number"]
theorem sc_is_word : FnScope M.N_is_word ["number"] (defScope s_is_word) := ⟨rfl, rfl, rfl, by decide +kernel, rfl, by decide +kernel, by decide +kernel⟩
abbrev M.N_wrap : List Str := ["number"]
theorem sc_wrap : FnScope M.N_wrap ["number"] (defScope s_wrap) := ⟨rfl, rfl, rfl, by decide +kernel, rfl, by decide +kernel, by decide +kernel⟩
abbrev M.N_signed : List Str := ["word"]
theorem sc_signed : FnScope M.N_signed ["word"] (defScope s_signed) := ⟨rfl, rfl, rfl, by decide +kernel, rfl, by decide +kernel, by decide +kernel⟩
abbrev M.N_add : List Str := ["first", "second"]
theorem sc_add : FnScope M.N_add ["first", "second"] (defScope s_add) := ⟨rfl, rfl, rfl, by decide +kernel, rfl, by decide +kernel, by decide +kernel⟩
abbrev M.N_sub : List Str := ["first", "second"]
theorem sc_sub : FnScope M.N_sub ["first", "second"] (defScope s_sub) := ⟨rfl, rfl, rfl, by decide +kernel, rfl, by decide +kernel, by decide +kernel⟩
abbrev M.N_mul : List Str := ["first", "second"]
theorem sc_mul : FnScope M.N_mul ["first", "second"] (defScope s_mul) := ⟨rfl, rfl, rfl, by decide +kernel, rfl, by decide +kernel, by decide +kernel⟩
abbrev M.N_bit_and : List Str := ["first", "second"]
theorem sc_bit_and : FnScope M.N_bit_and ["first", "second"] (defScope s_bit_and) := ⟨rfl, rfl, rfl, by decide +kernel, rfl, by decide +kernel, by decide +kernel⟩
abbrev M.N_bit_or : List Str := ["first", "second"]
theorem sc_bit_or : FnScope M.N_bit_or ["first", "second"] (defScope s_bit_or) := ⟨rfl, rfl, rfl, by decide +kernel, rfl, by decide +kernel, by decide +kernel⟩
abbrev M.N_bit_xor : List Str := ["first", "second"]
theorem sc_bit_xor : FnScope M.N_bit_xor ["first", "second"] (defScope s_bit_xor) := ⟨rfl, rfl, rfl, by decide +kernel, rfl, by decide +kernel, by decide +kernel⟩
abbrev M.N_shift_left : List Str := ["word", "count"]
theorem sc_shift_left : FnScope M.N_shift_left ["word", "count"] (defScope s_shift_left) := ⟨rfl, rfl, rfl, by decide +kernel, rfl, by decide +kernel, by decide +kernel⟩
abbrev M.N_shift_right : List Str := ["word", "count"]
theorem sc_shift_right : FnScope M.N_shift_right ["word", "count"] (defScope s_shift_right) := ⟨rfl, rfl, rfl, by decide +kernel, rfl, by decide +kernel, by decide +kernel⟩
local macro_rules | `(tactic| walk_at "s") => `(tactic| with_reducible refine go_wrap ?_)
theorem ok_is_word (T : Tx K mg) : C8.Cal P w K mg base 1 "is_word" sp_is_word [] := by
  refine M.cal_mk T.f_is_word T.g_is_word sc_is_word (fun _ _ _ _ _ _ us hl => match us, hl with | [_], _ => rfl) (by rintro vs H Q E ⟨n, rfl, _⟩; rfl) fun cdv A outer s H vs Q E hr h => ?_
  obtain ⟨n, rfl, k⟩ := h
  refine ⟨_, (pss_one (ps_ret (pe_chain op_le op_lt pe_int (pv 0) (C8.pe_gc (by rfl) T.g_MODULUS)))), ?_⟩
  walk_at "go"
  refine M.x_ifD (fun h => ?_) (fun h => ?_)
  · walk_at "go"
    rw [show decide (0 ≤ n ∧ n < 65536) = decide (n < 65536) by simp [h]] at k
    exact k
  · rw [show decide (0 ≤ n ∧ n < 65536) = false by simp [h]] at k
    exact k
theorem ok_wrap (T : Tx K mg) : C8.Cal P w K mg base 1 "wrap" sp_wrap [] := by
  refine M.cal_mk T.f_wrap T.g_wrap sc_wrap (fun _ _ _ _ _ _ us hl => match us, hl with | [_], _ => rfl) (by rintro vs H Q E ⟨n, rfl, _⟩; rfl) fun cdv A outer s H vs Q E hr h => ?_
  obtain ⟨n, rfl, k⟩ := h
  refine ⟨_, (pss_one (ps_ret (pe_op op_mod (pe_callTy M.call_int (by rfl) T.b_int (by decide +kernel) (pa_cons (pv 0) pa_nil)) (C8.pe_gc (by rfl) T.g_MODULUS)))), ?_⟩
  walk_at "go"
  exact k
theorem ok_signed (T : Tx K mg) : C8.Cal P w K mg base 1 "signed" sp_signed [] := by
  refine M.cal_mk T.f_signed T.g_signed sc_signed (fun _ _ _ _ _ _ us hl => match us, hl with | [_], _ => rfl) (by rintro vs H Q E ⟨n, rfl, _⟩; rfl) fun cdv A outer s H vs Q E hr h => ?_
  obtain ⟨n, rfl, k⟩ := h
  refine ⟨_, (pss_one (ps_ret (pe_ifExp (pt_cmpR op_ge (pv 0) (C8.pe_gc (by rfl) T.g_HALF) (nomark _)) (pe_op op_sub (pv 0) (C8.pe_gc (by rfl) T.g_MODULUS)) (pv 0)))), ?_⟩
  walk_at "go"
  refine M.x_ifD (fun h => ?_) (fun h => ?_)
  · walk_at "go"
    rw [if_pos h] at k
    exact k
  · walk_at "go"
    rw [if_neg h] at k
    exact k
theorem ok_add (T : Tx K mg) : C8.Cal P w K mg base 2 "add" sp_add [] := by
  refine M.cal_mk T.f_add T.g_add sc_add (fun _ _ _ _ _ _ us hl => match us, hl with | [_, _], _ => rfl) (by rintro vs H Q E ⟨a, b, rfl, _⟩; rfl) fun cdv A outer s H vs Q E hr h => ?_
  obtain ⟨a, b, rfl, d, k⟩ := h
  refine ⟨_, (pss_one (ps_ret (C8.pe_c (ok_wrap T) hr (by decide) (by rfl) (pa_cons (pe_op op_add (pv 0) (pv 1)) pa_nil)))), ?_⟩
  walk_at "go"
  exact k
theorem ok_sub (T : Tx K mg) : C8.Cal P w K mg base 2 "sub" sp_sub [] := by
  refine M.cal_mk T.f_sub T.g_sub sc_sub (fun _ _ _ _ _ _ us hl => match us, hl with | [_, _], _ => rfl) (by rintro vs H Q E ⟨a, b, rfl, _⟩; rfl) fun cdv A outer s H vs Q E hr h => ?_
  obtain ⟨a, b, rfl, d, k⟩ := h
  refine ⟨_, (pss_one (ps_ret (C8.pe_c (ok_wrap T) hr (by decide) (by rfl) (pa_cons (pe_op op_sub (pv 0) (pv 1)) pa_nil)))), ?_⟩
  walk_at "go"
  exact k
theorem ok_mul (T : Tx K mg) : C8.Cal P w K mg base 2 "mul" sp_mul [] := by
  refine M.cal_mk T.f_mul T.g_mul sc_mul (fun _ _ _ _ _ _ us hl => match us, hl with | [_, _], _ => rfl) (by rintro vs H Q E ⟨a, b, rfl, _⟩; rfl) fun cdv A outer s H vs Q E hr h => ?_
  obtain ⟨a, b, rfl, d, k⟩ := h
  refine ⟨_, (pss_one (ps_ret (C8.pe_c (ok_wrap T) hr (by decide) (by rfl) (pa_cons (pe_op op_mul (pv 0) (pv 1)) pa_nil)))), ?_⟩
  walk_at "go"
  exact k
theorem ok_bit_and (T : Tx K mg) : C8.Cal P w K mg base 1 "bit_and" sp_bit_and [] := by
  refine M.cal_mk T.f_bit_and T.g_bit_and sc_bit_and (fun _ _ _ _ _ _ us hl => match us, hl with | [_, _], _ => rfl) (by rintro vs H Q E ⟨a, b, rfl, _⟩; rfl) fun cdv A outer s H vs Q E hr h => ?_
  obtain ⟨a, b, rfl, d, k⟩ := h
  refine ⟨_, (pss_one (ps_ret (pe_op op_and (pv 0) (pv 1)))), ?_⟩
  walk_at "go"
  exact k
theorem ok_bit_or (T : Tx K mg) : C8.Cal P w K mg base 1 "bit_or" sp_bit_or [] := by
  refine M.cal_mk T.f_bit_or T.g_bit_or sc_bit_or (fun _ _ _ _ _ _ us hl => match us, hl with | [_, _], _ => rfl) (by rintro vs H Q E ⟨a, b, rfl, _⟩; rfl) fun cdv A outer s H vs Q E hr h => ?_
  obtain ⟨a, b, rfl, d, k⟩ := h
  refine ⟨_, (pss_one (ps_ret (pe_op op_or (pv 0) (pv 1)))), ?_⟩
  walk_at "go"
  exact k
theorem ok_bit_xor (T : Tx K mg) : C8.Cal P w K mg base 1 "bit_xor" sp_bit_xor [] := by
  refine M.cal_mk T.f_bit_xor T.g_bit_xor sc_bit_xor (fun _ _ _ _ _ _ us hl => match us, hl with | [_, _], _ => rfl) (by rintro vs H Q E ⟨a, b, rfl, _⟩; rfl) fun cdv A outer s H vs Q E hr h => ?_
  obtain ⟨a, b, rfl, d, k⟩ := h
  refine ⟨_, (pss_one (ps_ret (pe_op op_xor (pv 0) (pv 1)))), ?_⟩
  walk_at "go"
  exact k
theorem ok_shift_left (T : Tx K mg) : C8.Cal P w K mg base 2 "shift_left" sp_shift_left [] := by
  refine M.cal_mk T.f_shift_left T.g_shift_left sc_shift_left (fun _ _ _ _ _ _ us hl => match us, hl with | [_, _], _ => rfl) (by rintro vs H Q E ⟨a, b, rfl, _⟩; rfl) fun cdv A outer s H vs Q E hr h => ?_
  obtain ⟨a, b, rfl, d, k⟩ := h
  obtain ⟨d1, d2, d3, d4⟩ := d
  refine ⟨_, (pss_one (ps_ret (C8.pe_c (ok_wrap T) hr (by decide) (by rfl) (pa_cons (pe_op op_shl (pv 0) (pv 1)) pa_nil)))), ?_⟩
  walk_at "go"
  exact k
theorem ok_shift_right (T : Tx K mg) : C8.Cal P w K mg base 1 "shift_right" sp_shift_right [] := by
  refine M.cal_mk T.f_shift_right T.g_shift_right sc_shift_right (fun _ _ _ _ _ _ us hl => match us, hl with | [_, _], _ => rfl) (by rintro vs H Q E ⟨a, b, rfl, _⟩; rfl) fun cdv A outer s H vs Q E hr h => ?_
  obtain ⟨a, b, rfl, d, k⟩ := h
  have d : 0 ≤ b := d
  refine ⟨_, (pss_one (ps_ret (pe_op op_shr (pv 0) (pv 1)))), ?_⟩
  walk_at "go"
  exact k
end words

/-! ## _law_number -/
section lawnum
variable {P : Program} {w : World} {K : PySem.W.Frag} {mg : Str → Option Value} {base : Heap}
def mixed (cell k : Int) : Int := (cell * 48271 + k * 69621 + 11) % 2147483647
def lawNumber (cell k : Int) : Int := if 10 ^ 18 ≤ cell then cell else (mixed cell k * mixed cell k + k * 40692) % 2147483399
theorem mixed_lt (cell k : Int) : 0 ≤ mixed cell k ∧ mixed cell k < 2147483647 := by unfold mixed; omega
def sp__law_number : Sp := fun vs H Q _ => ∃ a b : Int, vs = [.int a, .int b] ∧ Q (.int (lawNumber a b)) H
theorem go__law_number {a b : Int} {H : Hp} {Q : VK} {E : XK} (k : Q (.int (lawNumber a b)) H) : sp__law_number [.int a, .int b] H Q E := ⟨a, b, rfl, k⟩
abbrev M.N__law_number : List Str := ["cell", "k", "mixed"]
theorem sc__law_number : FnScope M.N__law_number ["cell", "k"] (defScope s__law_number) := ⟨rfl, rfl, rfl, by decide +kernel, rfl, by decide +kernel, by decide +kernel⟩
theorem ok__law_number (T : Tx K mg) : C8.Cal P w K mg base 1 "_law_number" sp__law_number [] := by
  refine M.cal_mk T.f__law_number T.g__law_number sc__law_number (fun _ _ _ _ _ _ us hl => match us, hl with | [_, _], _ => rfl) (by rintro vs H Q E ⟨a, b, rfl, _⟩; rfl) fun cdv A outer s H vs Q E hr h => ?_
  obtain ⟨a, b, rfl, k⟩ := h
  refine ⟨_, (pss_cons (ps_if (pt_cmpR op_ge (pv 0) (pe_op op_pow pe_int pe_int) (nomark _)) (pss_one (ps_ret (pv 0))) pss_nil) (pss_cons (ps_set (i := 2) sc__law_number.nd rfl (Or.inl rfl) (pe_op op_mod (pe_callTy M.call_int (by rfl) T.b_int (by decide +kernel) (pa_cons (pe_op op_add (pe_op op_add (pe_op op_mul (pv 0) pe_int) (pe_op op_mul (pv 1) pe_int)) pe_int) pa_nil)) pe_int)) (pss_one (ps_ret (pe_op op_mod (pe_callTy M.call_int (by rfl) T.b_int (by decide +kernel) (pa_cons (pe_op op_add (pe_op op_mul (pv 2) (pv 2)) (pe_op op_mul (pv 1) pe_int)) pa_nil)) pe_int))))), ?_⟩
  walk_at "go"
  unfold lawNumber at k
  refine M.x_ifD (fun h => ?_) (fun h => ?_)
  · have h : (10 : Int) ^ 18 ≤ a := h
    walk_at "go"
    rw [if_pos h] at k
    exact k
  · have h : ¬ (10 : Int) ^ 18 ≤ a := h
    walk_at "go"
    rw [if_neg h] at k
    have hm := mixed_lt a b
    unfold mixed at hm k
    walk_at "go"
    exact k
end lawnum

local macro_rules | `(tactic| walk_at "s") => `(tactic| with_reducible refine go_wrap ?_)
local macro_rules | `(tactic| walk_at "s") => `(tactic| with_reducible refine go__law_number ?_)
section
variable {P : Program} {w : World} {K : PySem.W.Frag} {mg : Str → Option Value} {base : Heap}
def menu : List Int := [0, 255, 32768, 65535]
def lawWord (x : Int) : Int := if x % 3 = 0 then (menu.getD (x / 3 % 4).toNat 0 + x / 12 % 7 - 3) % 65536 else x / 3 % 65536
theorem lawWord_lt (x : Int) : 0 ≤ lawWord x ∧ lawWord x < 65536 := by
  unfold lawWord
  split <;> omega
def sp__law_word : Sp := fun vs H Q _ => ∃ a : Int, vs = [.int a] ∧ ∀ H', Same H H' → Q (.int (lawWord a)) H'
theorem go__law_word {a : Int} {H : Hp} {Q : VK} {E : XK} (k : ∀ H', Same H H' → Q (.int (lawWord a)) H') : sp__law_word [.int a] H Q E := ⟨a, rfl, k⟩
abbrev M.N__law_word : List Str := ["x"]
theorem sc__law_word : FnScope M.N__law_word ["x"] (defScope s__law_word) := ⟨rfl, rfl, rfl, by decide +kernel, rfl, by decide +kernel, by decide +kernel⟩
theorem ok__law_word (T : Tx K mg) : C8.Cal P w K mg base 1 "_law_word" sp__law_word [] := by
  refine M.cal_mk T.f__law_word T.g__law_word sc__law_word (fun _ _ _ _ _ _ us hl => match us, hl with | [_], _ => rfl) (by rintro vs H Q E ⟨a, rfl, _⟩; rfl) fun cdv A outer s H vs Q E hr h => ?_
  obtain ⟨a, rfl, k⟩ := h
  refine ⟨_, (pss_cons (ps_if (pt_cmpR op_eq (pe_op op_mod (pe_callTy M.call_int (by rfl) T.b_int (by decide +kernel) (pa_cons (pv 0) pa_nil)) pe_int) pe_int (nomark _)) (pss_one (ps_ret (pe_op op_mod (pe_callTy M.call_int (by rfl) T.b_int (by decide +kernel) (pa_cons (pe_op op_sub (pe_op op_add (pe_ix ix_list (pe_lst (pa_cons pe_int (pa_cons pe_int (pa_cons pe_int (pa_cons pe_int pa_nil))))) (pe_op op_mod (pe_op op_fdiv (pv 0) pe_int) pe_int) (fun _ _ => rfl)) (pe_op op_mod (pe_op op_fdiv (pv 0) pe_int) pe_int)) pe_int) pa_nil)) pe_int))) pss_nil) (pss_one (ps_ret (pe_op op_mod (pe_op op_fdiv (pv 0) pe_int) pe_int)))), ?_⟩
  walk_at "go"
  unfold lawWord at k
  refine M.x_ifD (fun h => ?_) (fun h => ?_)
  · walk_at "go"
    rw [if_pos h] at k
    intro p H2 hp e2 h2
    walk_at "go"
    refine M.x_ixL (SqL.of h2) (M.atI_ints (l := menu) (by omega) (by show _ < (4 : Int); omega)) ?_
    walk_at "go"
    exact k H2 e2
  · walk_at "go"
    rw [if_neg h] at k
    exact k H (Same.refl H)
def sp__law_is : Sp := fun vs H Q _ => ∃ a b : Int, vs = [.int a, .int b] ∧ Q (.bl (decide (a = b))) H
theorem go__law_is {a b : Int} {H : Hp} {Q : VK} {E : XK} (k : Q (.bl (decide (a = b))) H) : sp__law_is [.int a, .int b] H Q E := ⟨a, b, rfl, k⟩
abbrev M.N__law_is : List Str := ["actual", "due"]
theorem sc__law_is : FnScope M.N__law_is ["actual", "due"] (defScope s__law_is) := ⟨rfl, rfl, rfl, by decide +kernel, rfl, by decide +kernel, by decide +kernel⟩
theorem ok__law_is (T : Tx K mg) : C8.Cal P w K mg base 1 "_law_is" sp__law_is [] := by
  refine M.cal_mk T.f__law_is T.g__law_is sc__law_is (fun _ _ _ _ _ _ us hl => match us, hl with | [_, _], _ => rfl) (by rintro vs H Q E ⟨a, b, rfl, _⟩; rfl) fun cdv A outer s H vs Q E hr h => ?_
  obtain ⟨a, b, rfl, k⟩ := h
  refine ⟨_, (pss_one (ps_ret (pe_and (pe_callB M.call_isi (by rfl) T.b_isinstance (by decide +kernel) (pa_cons (pv 0) (pa_cons (pe_bltn (v := V.ty "int") (u := Value.type "int") (by rfl) T.b_int (by decide +kernel) rfl) pa_nil))) (pe_and (pe_not (pe_callB M.call_isi (by rfl) T.b_isinstance (by decide +kernel) (pa_cons (pv 0) (pa_cons (pe_bltn (v := V.ty "bool") (u := Value.type "bool") (by rfl) T.b_bool (by decide +kernel) rfl) pa_nil)))) (pe_one (pe_cmpR op_eq (pv 0) (pv 1) (nomark _))))))), ?_⟩
  walk_at "go"
  exact k

theorem pow16 {i : Nat} (h : i < 16) : (0 : Int) < 2 ^ i ∧ (2 : Int) ^ i ≤ 32768 := by
  have h1 : 2 ^ i ≤ 2 ^ 15 := Nat.pow_le_pow_right (by decide) (by omega)
  have h0 : (0 : Int) < 2 ^ i := Int.pow_pos (by decide)
  have e : ((2 ^ i : Nat) : Int) = 2 ^ i := by push_cast; rfl
  exact ⟨h0, by omega⟩
def sp__law_bits : Sp := fun vs H Q _ => ∃ a b : Int, vs = [.int a, .int b] ∧ (0 ≤ a ∧ a < 65536) ∧ (0 ≤ b ∧ b < 65536) ∧ ∀ p H', H p = none → Same H H' → H' p = some (.lst [.int (Builtin.bitAnd a b), .int (Builtin.bitOr a b), .int (Builtin.bitXor a b)]) → Q (.ref p) H'
abbrev M.N__law_bits : List Str := ["first", "second", "found", "bit", "k", "one", "two"]
theorem sc__law_bits : FnScope M.N__law_bits ["first", "second"] (defScope s__law_bits) := ⟨rfl, rfl, rfl, by decide +kernel, rfl, by decide +kernel, by decide +kernel⟩
theorem ok__law_bits (T : Tx K mg) : C8.Cal P w K mg base 1 "_law_bits" sp__law_bits [] := by
  refine M.cal_mk T.f__law_bits T.g__law_bits sc__law_bits (fun _ _ _ _ _ _ us hl => match us, hl with | [_, _], _ => rfl) (by rintro vs H Q E ⟨a, b, rfl, _⟩; rfl) fun cdv A outer s H vs Q E hr h => ?_
  obtain ⟨a, b, rfl, ha, hb, k⟩ := h
  refine ⟨_, (pss_cons (ps_set (i := 2) sc__law_bits.nd rfl (Or.inl rfl) (pe_lst (pa_cons pe_int (pa_cons pe_int (pa_cons pe_int pa_nil))))) (pss_cons (ps_set (i := 3) sc__law_bits.nd rfl (Or.inl rfl) pe_int) (pss_cons (ps_for PassesOwn.never rfl (pi_range1 (by rfl) T.b_range (pa_cons pe_int pa_nil)) (pg_name (i := 4) sc__law_bits.nd rfl (Or.inl rfl)) (pss_cons (ps_set (i := 5) sc__law_bits.nd rfl (Or.inl rfl) (pe_op op_mod (pe_op op_fdiv (pv 0) (pv 3)) pe_int)) (pss_cons (ps_set (i := 6) sc__law_bits.nd rfl (Or.inl rfl) (pe_op op_mod (pe_op op_fdiv (pv 1) (pv 3)) pe_int)) (pss_cons (ps_set (i := 2) sc__law_bits.nd rfl (Or.inl rfl) (pe_lst (pa_cons (pe_op op_add (pe_ix ix_list (pv 2) pe_int (fun _ _ => rfl)) (pe_op op_mul (pe_op op_mul (pv 3) (pv 5)) (pv 6))) (pa_cons (pe_op op_add (pe_ix ix_list (pv 2) pe_int (fun _ _ => rfl)) (pe_op op_mul (pv 3) (pe_callB (M.call_max2 rfl) (by rfl) T.b_max (by decide +kernel) (pa_cons (pv 5) (pa_cons (pv 6) pa_nil))))) (pa_cons (pe_op op_add (pe_ix ix_list (pv 2) pe_int (fun _ _ => rfl)) (pe_op op_mul (pv 3) (pe_callTy M.call_int (by rfl) T.b_int (by decide +kernel) (pa_cons (pe_cmpR op_ne (pv 5) (pv 6) (nomark _)) pa_nil)))) pa_nil))))) (pss_one (ps_set (i := 3) sc__law_bits.nd rfl (Or.inl rfl) (pe_op op_mul (pv 3) pe_int))))))) (pss_one (ps_ret (pv 2)))))), ?_⟩
  walk_at "go"
  intro p H1 hp e1 h1
  walk_at "go"
  refine M.x_for1 (n := 16) (fun Q q => by walk_at "go"; exact q) ⟨by decide, by decide⟩ (fun i σ' H' => ∃ q v1 v2 v3, σ' = [some (.int a), some (.int b), some (.ref q), some (.int (2 ^ i)), v1, v2, v3] ∧ H q = none ∧ Same H H' ∧
    H' q = some (.lst [.int (andS a b i), .int (orS a b i), .int (xorS a b i)])) ⟨p, _, _, _, rfl, hp, e1, h1⟩ ?_ ?_
  · rintro i σ' H' hi ⟨q, v1, v2, v3, rfl, hq, e2, h2⟩
    have hp2 := pow16 (show i < 16 by omega)
    have b1 := bit01 a i
    have b2 := bit01 b i
    walk_at "go"
    intro q2 H3 hq2 e3 h3
    walk_at "go"
    exact ⟨q2, _, _, _, rfl, e2.free hq2, e2.trans e3, h3⟩
  · rintro σ' H' ⟨q, v1, v2, v3, rfl, hq, e2, h2⟩
    walk_at "go"
    obtain ⟨z1, z2, z3⟩ := bits_are ha hb
    have h2 : H' q = some (.lst [.int (andS a b 16), .int (orS a b 16), .int (xorS a b 16)]) := h2
    rw [z1, z2, z3] at h2
    exact k q H' hq e2 h2
def sp__law_shifts : Sp := fun vs H Q _ => ∃ a n : Int, vs = [.int a, .int n] ∧ (0 ≤ a ∧ a < 65536) ∧ (0 ≤ n ∧ n ≤ 15) ∧ ∀ p H', H p = none → Same H H' → H' p = some (.lst [.int (a * 2 ^ n.toNat % 65536), .int (a / 2 ^ n.toNat)]) → Q (.ref p) H'
abbrev M.N__law_shifts : List Str := ["word", "count", "left", "right", "k"]
theorem sc__law_shifts : FnScope M.N__law_shifts ["word", "count"] (defScope s__law_shifts) := ⟨rfl, rfl, rfl, by decide +kernel, rfl, by decide +kernel, by decide +kernel⟩
theorem ok__law_shifts (T : Tx K mg) : C8.Cal P w K mg base 1 "_law_shifts" sp__law_shifts [] := by
  refine M.cal_mk T.f__law_shifts T.g__law_shifts sc__law_shifts (fun _ _ _ _ _ _ us hl => match us, hl with | [_, _], _ => rfl) (by rintro vs H Q E ⟨a, b, rfl, _⟩; rfl) fun cdv A outer s H vs Q E hr h => ?_
  obtain ⟨a, n, rfl, ha, hn, k⟩ := h
  refine ⟨_, (pss_cons (ps_set (i := 2) sc__law_shifts.nd rfl (Or.inl rfl) (pv 0)) (pss_cons (ps_set (i := 3) sc__law_shifts.nd rfl (Or.inl rfl) (pv 0)) (pss_cons (ps_for PassesOwn.never rfl (pi_range1 (by rfl) T.b_range (pa_cons (pv 1) pa_nil)) (pg_name (i := 4) sc__law_shifts.nd rfl (Or.inl rfl)) (pss_cons (ps_set (i := 2) sc__law_shifts.nd rfl (Or.inl rfl) (pe_op op_mod (pe_callTy M.call_int (by rfl) T.b_int (by decide +kernel) (pa_cons (pe_op op_mul (pv 2) pe_int) pa_nil)) pe_int)) (pss_one (ps_set (i := 3) sc__law_shifts.nd rfl (Or.inl rfl) (pe_op op_fdiv (pv 3) pe_int))))) (pss_one (ps_ret (pe_lst (pa_cons (pv 2) (pa_cons (pv 3) pa_nil)))))))), ?_⟩
  walk_at "go"
  refine M.x_for1 (n := n) (fun Q q => by walk_at "go"; exact q) ⟨hn.1, by omega⟩ (fun i σ' H' => ∃ v1, σ' = [some (.int a), some (.int n), some (.int (lShift a i)), some (.int (rShift a i)), v1] ∧ H' = H) ⟨_, rfl, rfl⟩ ?_ ?_
  · rintro i σ' H' hi ⟨v1, rfl, rfl⟩
    walk_at "go"
    exact ⟨_, rfl, rfl⟩
  · rintro σ' H' ⟨v1, rfl, rfl⟩
    rw [lShift_eq ha, rShift_eq]
    walk_at "go"
    intro p H1 hp e1 h1
    exact k p H1 hp e1 h1

local macro_rules | `(tactic| walk_at "s") => `(tactic| with_reducible refine go_is_word ?_)
local macro_rules | `(tactic| walk_at "s") => `(tactic| with_reducible refine go_signed ?_)
local macro_rules | `(tactic| walk_at "s") => `(tactic| with_reducible refine go__law_is ?_)
local macro_rules | `(tactic| walk_at "s") => `(tactic| ((with_reducible refine' go_I2 ?xd ?_); (case xd => first | exact trivial | exact ⟨by omega, by omega⟩ | (show 0 ≤ _; omega) | exact ⟨by omega, by omega, by omega, by omega⟩)))
def dueL (n A B c : Int) : List Int := [n % 65536, A - 65536 * (if decide (32767 < A) = true then 1 else 0), (A + B) % 65536, (A - B) % 65536, A * B % 65536, Builtin.bitAnd A B, Builtin.bitOr A B, Builtin.bitXor A B, A * 2 ^ c.toNat % 65536, A / 2 ^ c.toNat]
def sp_law (K : PySem.W.Frag) : Sp := fun vs H Q _ => ∃ (a : Addr) (ns : List Int), vs = [.ref a] ∧ SqL K H a (ns.map V.int) ∧ ns.length ≤ 63 ∧ ∀ H', Q (.bl true) H'
abbrev M.N_law : List Str := ["script", "cells", "k", "first", "second", "count", "number", "right", "bits", "shifts", "told", "due", "at", "cell"]
theorem sc_law : FnScope M.N_law ["script"] (defScope s_law) := ⟨rfl, rfl, rfl, by decide +kernel, rfl, by decide +kernel, by decide +kernel⟩
theorem ok_law (T : Tx K mg) {fd : FuncData} (F : FunD K "law" "law" (defArgs s_law) (defBody s_law) (defScope s_law) [] [] (He.ga K "law") fd) : FnOk P w K mg base CX0 3 (He.ga K "law") fd ["script"] (sp_law K) := by
  refine M.fn_mk F sc_law (by rintro vs H Q E ⟨a, b, rfl, _⟩; rfl) fun cdv A outer s H vs Q E hr h => ?_
  obtain ⟨a, ns, rfl, hS, hlen, k⟩ := h
  refine ⟨_, (pss_cons (ps_setLc (i := 1) (own := [("cell", 13)]) rfl sc_law.nd rfl rfl (sw_true rfl rfl rfl (by decide +kernel)) (pi_list (pv 0)) (blkOk_by (own := [("cell", 13)]) (N := M.N_law) (sc := defScope s_law) (by decide +kernel)) (fun _ _ _ _ _ => (pg_name (i := 13) sc_law.nd rfl (Or.inl rfl))) (fun _ _ _ _ _ => pts_nil) (fun _ _ _ _ _ => (pe_callTy M.call_int (by rfl) T.b_int (by decide +kernel) (pa_cons (pv 13) pa_nil)))) (C8.pss_cut (ps_if (pt_not (M.pt_tru (pv 1))) (pss_one (ps_set (i := 1) sc_law.nd rfl (Or.inl rfl) (pe_lst (pa_cons pe_int pa_nil)))) pss_nil) (pss_cons (ps_for PassesOwn.never rfl (pi_range1 (by rfl) T.b_range (pa_cons (pe_callB M.call_len (by rfl) T.b_len (by decide +kernel) (pa_cons (pv 1) pa_nil)) pa_nil)) (pg_name (i := 2) sc_law.nd rfl (Or.inl rfl)) (pss_cons (ps_set (i := 3) sc_law.nd rfl (Or.inl rfl) (C8.pe_c (ok__law_word T) hr (by decide) (by rfl) (pa_cons (C8.pe_c (ok__law_number T) hr (by decide) (by rfl) (pa_cons (pe_ix ix_list (pv 1) (pv 2) (fun _ _ => rfl)) (pa_cons (pv 2) pa_nil))) pa_nil))) (pss_cons (ps_set (i := 4) sc_law.nd rfl (Or.inl rfl) (C8.pe_c (ok__law_word T) hr (by decide) (by rfl) (pa_cons (C8.pe_c (ok__law_number T) hr (by decide) (by rfl) (pa_cons (pe_op op_add (pe_op op_fdiv (pe_ix ix_list (pv 1) (pv 2) (fun _ _ => rfl)) pe_int) (pe_op op_mul pe_int (pv 2))) (pa_cons (pe_op op_add (pv 2) pe_int) pa_nil))) pa_nil))) (pss_cons (ps_set (i := 5) sc_law.nd rfl (Or.inl rfl) (pe_op op_mod (pe_op op_fdiv (C8.pe_c (ok__law_number T) hr (by decide) (by rfl) (pa_cons (pe_ix ix_list (pv 1) (pv 2) (fun _ _ => rfl)) (pa_cons (pe_op op_add (pv 2) pe_int) pa_nil))) pe_int) pe_int)) (pss_cons (ps_set (i := 6) sc_law.nd rfl (Or.inl rfl) (pe_op op_sub (pe_op op_mod (pe_op op_mul (pe_op op_fdiv (C8.pe_c (ok__law_number T) hr (by decide) (by rfl) (pa_cons (pe_ix ix_list (pv 1) (pv 2) (fun _ _ => rfl)) (pa_cons (pe_op op_add (pv 2) pe_int) pa_nil))) pe_int) pe_int) pe_int) pe_int)) (pss_cons (ps_set (i := 7) sc_law.nd rfl (Or.inl rfl) (C8.pe_c (ok_is_word T) hr (by decide) (by rfl) (pa_cons (pv 6) pa_nil))) (C8.pss_cut (ps_if (PW.pt (pw_or (pt_not (pt_val (pe_callB M.call_isi (by rfl) T.b_isinstance (by decide +kernel) (pa_cons (pv 7) (pa_cons (pe_bltn (v := V.ty "bool") (u := Value.type "bool") (by rfl) T.b_bool (by decide +kernel) rfl) pa_nil))))) (pw_or1 (pt_cmpR op_ne (pv 7) (pe_chain op_le op_le pe_int (pv 6) pe_int) (nomark _))))) (pss_one (ps_ret pe_bl)) pss_nil) (pss_cons (ps_set (i := 8) sc_law.nd rfl (Or.inl rfl) (C8.pe_c (ok__law_bits T) hr (by decide) (by rfl) (pa_cons (pv 3) (pa_cons (pv 4) pa_nil)))) (pss_cons (ps_set (i := 9) sc_law.nd rfl (Or.inl rfl) (C8.pe_c (ok__law_shifts T) hr (by decide) (by rfl) (pa_cons (pv 3) (pa_cons (pv 5) pa_nil)))) (pss_cons (ps_set (i := 10) sc_law.nd rfl (Or.inl rfl) (pe_lst (pa_cons (C8.pe_c (ok_wrap T) hr (by decide) (by rfl) (pa_cons (pv 6) pa_nil)) (pa_cons (C8.pe_c (ok_signed T) hr (by decide) (by rfl) (pa_cons (pv 3) pa_nil)) (pa_cons (C8.pe_c (ok_add T) hr (by decide) (by rfl) (pa_cons (pv 3) (pa_cons (pv 4) pa_nil))) (pa_cons (C8.pe_c (ok_sub T) hr (by decide) (by rfl) (pa_cons (pv 3) (pa_cons (pv 4) pa_nil))) (pa_cons (C8.pe_c (ok_mul T) hr (by decide) (by rfl) (pa_cons (pv 3) (pa_cons (pv 4) pa_nil))) pa_nil))))))) (pss_cons (ps_set (i := 10) sc_law.nd rfl (Or.inl rfl) (pe_op op_cat (pv 10) (pe_lst (pa_cons (C8.pe_c (ok_bit_and T) hr (by decide) (by rfl) (pa_cons (pv 3) (pa_cons (pv 4) pa_nil))) (pa_cons (C8.pe_c (ok_bit_or T) hr (by decide) (by rfl) (pa_cons (pv 3) (pa_cons (pv 4) pa_nil))) (pa_cons (C8.pe_c (ok_bit_xor T) hr (by decide) (by rfl) (pa_cons (pv 3) (pa_cons (pv 4) pa_nil))) pa_nil)))))) (pss_cons (ps_set (i := 10) sc_law.nd rfl (Or.inl rfl) (pe_op op_cat (pv 10) (pe_lst (pa_cons (C8.pe_c (ok_shift_left T) hr (by decide) (by rfl) (pa_cons (pv 3) (pa_cons (pv 5) pa_nil))) (pa_cons (C8.pe_c (ok_shift_right T) hr (by decide) (by rfl) (pa_cons (pv 3) (pa_cons (pv 5) pa_nil))) pa_nil))))) (pss_cons (ps_set (i := 11) sc_law.nd rfl (Or.inl rfl) (pe_lst (pa_cons (pe_op op_mod (pe_callTy M.call_int (by rfl) T.b_int (by decide +kernel) (pa_cons (pv 6) pa_nil)) pe_int) (pa_cons (pe_op op_sub (pv 3) (pe_op op_mul pe_int (pe_callTy M.call_int (by rfl) T.b_int (by decide +kernel) (pa_cons (pe_cmpR op_gt (pv 3) pe_int (nomark _)) pa_nil)))) (pa_cons (pe_op op_mod (pe_callTy M.call_int (by rfl) T.b_int (by decide +kernel) (pa_cons (pe_op op_add (pv 3) (pv 4)) pa_nil)) pe_int) pa_nil))))) (pss_cons (ps_set (i := 11) sc_law.nd rfl (Or.inl rfl) (pe_op op_cat (pe_op op_cat (pe_op op_cat (pv 11) (pe_lst (pa_cons (pe_op op_mod (pe_callTy M.call_int (by rfl) T.b_int (by decide +kernel) (pa_cons (pe_op op_sub (pv 3) (pv 4)) pa_nil)) pe_int) (pa_cons (pe_op op_mod (pe_callTy M.call_int (by rfl) T.b_int (by decide +kernel) (pa_cons (pe_op op_mul (pv 3) (pv 4)) pa_nil)) pe_int) pa_nil)))) (pv 8)) (pv 9))) (pss_one (ps_for PassesOwn.never rfl (pi_range1 (by rfl) T.b_range (pa_cons (pe_callB M.call_len (by rfl) T.b_len (by decide +kernel) (pa_cons (pv 11) pa_nil)) pa_nil)) (pg_name (i := 12) sc_law.nd rfl (Or.inl rfl)) (pss_one (ps_if (pt_not (pt_val (C8.pe_c (ok__law_is T) hr (by decide) (by rfl) (pa_cons (pe_ix ix_list (pv 10) (pv 12) (fun _ _ => rfl)) (pa_cons (pe_ix ix_list (pv 11) (pv 12) (fun _ _ => rfl)) pa_nil))))) (pss_one (ps_ret pe_bl)) pss_nil)))))))))))))))))) (pss_one (ps_ret (pe_and (pe_cmpR op_isBl (C8.pe_c (ok_is_word T) hr (by decide) (by rfl) (pa_cons pe_int pa_nil)) pe_bl (nomark _)) (pe_and (pe_cmpR op_isBl (C8.pe_c (ok_is_word T) hr (by decide) (by rfl) (pa_cons pe_int pa_nil)) pe_bl (nomark _)) (pe_and (pe_cmpR op_isBl (C8.pe_c (ok_is_word T) hr (by decide) (by rfl) (pa_cons (pe_un un_neg pe_int) pa_nil)) pe_bl (nomark _)) (pe_one (pe_cmpR op_isBl (C8.pe_c (ok_is_word T) hr (by decide) (by rfl) (pa_cons pe_int pa_nil)) pe_bl (nomark _))))))))))), ?_⟩
  walk_at "go"
  refine M.x_lcL (fun Q q => by walk_at "go"; exact q) hS (by simp; omega) (ys := ns.map V.int) rfl (fun i x y H' hx hy e => ?_) (fun p H1 hp e1 h1 => ?_) (fun x σ H P P' => M.gName_mono x σ H P P')
  · obtain ⟨z, hz, rfl⟩ := M.map_int_get hx
    rw [hx] at hy
    cases hy
    refine ⟨rfl, rfl, fun R r => ?_⟩
    walk_at "go"
    exact r
  walk_at "go"
  refine M.x_cut (fun σ' H' => ∃ p, σ' = [some (.ref a), some (.ref p), none, none, none, none, none, none, none, none, none, none, none, none] ∧ Same H H' ∧ H' p = some (.lst ((M.cellsOf [4] ns).map V.int))) ?_ ?_
  · walk_at "go"
    refine M.x_if (fun h => ?_) (fun h => ?_)
    · have hn : ns = [] := by
        cases ns with
        | nil => rfl
        | cons _ _ => simp at h
      walk_at "go"
      intro p2 H2 hp2 e2 h2
      walk_at "go"
      exact ⟨p2, rfl, e1.trans e2, by rw [h2, M.cellsOf, if_pos hn]; rfl⟩
    · have hn : ns ≠ [] := by
        rintro rfl
        simp at h
      walk_at "go"
      exact ⟨p, rfl, e1, by rw [h1, M.cellsOf, if_neg hn]⟩
  · rintro σ' H' ⟨p, rfl, e1, h1⟩
    have hcl : (M.cellsOf [4] ns).length ≤ 63 := by
      unfold M.cellsOf
      split
      · simp
      · exact hlen
    walk_at "go"
    refine M.x_for1 (n := ((((M.cellsOf [4] ns).map V.int).length : Nat) : Int)) (fun Q q => by walk_at "go"; exact q) (by simp; omega) (fun i σ' H' => ∃ v2 v3 v4 v5 v6 v7 v8 v9 v10 v11 v12 v13, σ' = [some (.ref a), some (.ref p), v2, v3, v4, v5, v6, v7, v8, v9, v10, v11, v12, v13] ∧ H' p = some (.lst ((M.cellsOf [4] ns).map V.int)))
      ⟨_, _, _, _, _, _, _, _, _, _, _, _, rfl, h1⟩ ?_ ?_
    · rintro i σ' H2 hi ⟨v2, v3, v4, v5, v6, v7, v8, v9, v10, v11, v12, v13, rfl, h2⟩
      have hi2 : i < (M.cellsOf [4] ns).length := by simpa using hi
      walk_at "go"
      refine go__law_word fun H3 e3 => ?_
      walk_at "go"
      refine go__law_word fun H4 e4 => ?_
      generalize hB : lawWord (lawNumber _ _) = B
      generalize hA : lawWord (lawNumber _ _) = A
      have bA : 0 ≤ A ∧ A < 65536 := hA ▸ lawWord_lt _
      have bB : 0 ≤ B ∧ B < 65536 := hB ▸ lawWord_lt _
      clear hA hB
      walk_at "go"
      generalize hc : lawNumber _ _ / 5 % 16 = c
      generalize hn : lawNumber _ _ / 3 * 7919 % 2199023255552 - 1099511627776 = n
      have bc : 0 ≤ c ∧ c ≤ 15 := by omega
      clear hc hn
      refine M.x_cut0 ?_ ?_
      · walk_at "go"
        refine M.x_ifD (fun g => ?_) (fun g => ?_)
        · walk_at "go"
          refine M.x_ifFD (by simp [g]; omega) ?_
          walk_at "go"
          exact ⟨rfl, rfl⟩
        · walk_at "go"
          refine M.x_ifFD (by simp [g]) ?_
          walk_at "go"
          exact ⟨rfl, rfl⟩
      walk_at "go"
      refine ⟨A, B, rfl, bA, bB, fun q1 H5 hq1 e5 h5 => ?_⟩
      walk_at "go"
      refine ⟨A, c, rfl, bA, bc, fun q2 H6 hq2 e6 h6 => ?_⟩
      walk_at "go"
      intro t1 J1 ht1 f1 g1
      walk_at "go"
      intro t2 J2 ht2 f2 g2
      walk_at "go"
      intro t3 J3 ht3 f3 g3
      walk_at "go"
      intro t4 J4 ht4 f4 g4
      walk_at "go"
      intro t5 J5 ht5 f5 g5
      walk_at "go"
      intro d1 K1 hd1 m1 n1
      walk_at "go"
      intro d2 K2 hd2 m2 n2
      walk_at "go"
      intro d3 K3 hd3 m3 n3
      walk_at "go"
      intro d4 K4 hd4 m4 n4
      walk_at "go"
      intro d5 K5 hd5 m5 n5
      walk_at "go"
      have key : (if 32768 ≤ A then A - 65536 else A) = A - 65536 * (if decide (32767 < A) = true then 1 else 0) := by
        by_cases z : 32768 ≤ A
        · rw [if_pos z, if_pos (decide_eq_true (by omega))]
          omega
        · rw [if_neg z, if_neg (by simp; omega)]
          omega
      rw [key] at g5
      have gT : K5 t5 = some (.lst ((dueL n A B c).map V.int)) := by walk_at "hp"
      have nT : K5 d5 = some (.lst ((dueL n A B c).map V.int)) := n5
      have hp5 : K5 p = some (.lst ((M.cellsOf [4] ns).map V.int)) := by walk_at "hp"
      refine M.x_for1 (n := 10) (fun Q q => by walk_at "go"; exact q) ⟨by decide, by decide⟩ (fun j σ' H' => ∃ v, σ' = [some (.ref a), some (.ref p), some (.int i), some (.int A), some (.int B), some (.int c), some (.int n), some (.bl (decide (0 ≤ n ∧ n < 65536))), some (.ref q1), some (.ref q2), some (.ref t5), some (.ref d5), v, v13] ∧ H' = K5) ⟨_, rfl, rfl⟩ ?_ ?_
      · rintro j σ' H' hj ⟨v, rfl, rfl⟩
        have hj : j < (dueL n A B c).length := by simp [dueL]; omega
        walk_at "go"
        exact ⟨_, rfl, rfl⟩
      · rintro σ' H' ⟨v, rfl, rfl⟩
        exact ⟨_, _, _, _, _, _, _, _, _, _, _, _, rfl, hp5⟩
    · rintro σ' H2 ⟨v2, v3, v4, v5, v6, v7, v8, v9, v10, v11, v12, v13, rfl, h2⟩
      walk_at "go"
      exact k H2
end
def fnD0 : He.DefD := ⟨("is_word", none), "is_word", "is_word", defArgs s_is_word, defBody s_is_word, defScope s_is_word, [], []⟩
def fnD1 : He.DefD := ⟨("wrap", none), "wrap", "wrap", defArgs s_wrap, defBody s_wrap, defScope s_wrap, [], []⟩
def fnD2 : He.DefD := ⟨("signed", none), "signed", "signed", defArgs s_signed, defBody s_signed, defScope s_signed, [], []⟩
def fnD3 : He.DefD := ⟨("add", none), "add", "add", defArgs s_add, defBody s_add, defScope s_add, [], []⟩
def fnD4 : He.DefD := ⟨("sub", none), "sub", "sub", defArgs s_sub, defBody s_sub, defScope s_sub, [], []⟩
def fnD5 : He.DefD := ⟨("mul", none), "mul", "mul", defArgs s_mul, defBody s_mul, defScope s_mul, [], []⟩
def fnD6 : He.DefD := ⟨("bit_and", none), "bit_and", "bit_and", defArgs s_bit_and, defBody s_bit_and, defScope s_bit_and, [], []⟩
def fnD7 : He.DefD := ⟨("bit_or", none), "bit_or", "bit_or", defArgs s_bit_or, defBody s_bit_or, defScope s_bit_or, [], []⟩
def fnD8 : He.DefD := ⟨("bit_xor", none), "bit_xor", "bit_xor", defArgs s_bit_xor, defBody s_bit_xor, defScope s_bit_xor, [], []⟩
def fnD9 : He.DefD := ⟨("shift_left", none), "shift_left", "shift_left", defArgs s_shift_left, defBody s_shift_left, defScope s_shift_left, [], []⟩
def fnD10 : He.DefD := ⟨("shift_right", none), "shift_right", "shift_right", defArgs s_shift_right, defBody s_shift_right, defScope s_shift_right, [], []⟩
def fnD11 : He.DefD := ⟨("_law_number", none), "_law_number", "_law_number", defArgs s__law_number, defBody s__law_number, defScope s__law_number, [], []⟩
def fnD12 : He.DefD := ⟨("_law_word", none), "_law_word", "_law_word", defArgs s__law_word, defBody s__law_word, defScope s__law_word, [], []⟩
def fnD13 : He.DefD := ⟨("_law_is", none), "_law_is", "_law_is", defArgs s__law_is, defBody s__law_is, defScope s__law_is, [], []⟩
def fnD14 : He.DefD := ⟨("_law_bits", none), "_law_bits", "_law_bits", defArgs s__law_bits, defBody s__law_bits, defScope s__law_bits, [], []⟩
def fnD15 : He.DefD := ⟨("_law_shifts", none), "_law_shifts", "_law_shifts", defArgs s__law_shifts, defBody s__law_shifts, defScope s__law_shifts, [], []⟩
def fnD16 : He.DefD := ⟨("law", none), "law", "law", defArgs s_law, defBody s_law, defScope s_law, [], []⟩
def fn : List He.DefD := [fnD0, fnD1, fnD2, fnD3, fnD4, fnD5, fnD6, fnD7, fnD8, fnD9, fnD10, fnD11, fnD12, fnD13, fnD14, fnD15, fnD16]
def fa : List He.Fa := [.glo "is_word",
  .glo "wrap",
  .glo "signed",
  .glo "add",
  .glo "sub",
  .glo "mul",
  .glo "bit_and",
  .glo "bit_or",
  .glo "bit_xor",
  .glo "shift_left",
  .glo "shift_right",
  .glo "_law_number",
  .glo "_law_word",
  .glo "_law_is",
  .glo "_law_bits",
  .glo "_law_shifts",
  .glo "law",
  .int "MODULUS" 65536,
  .int "HALF" 32768,
  .free "int",
  .free "bool",
  .free "len",
  .free "range",
  .free "max",
  .free "isinstance"]
def exs : List (PySem.W.Frag → Bool) := []
def ex (K : PySem.W.Frag) : Bool := exs.all fun f => f K
def ts : List He.Tab := []
def names : List Str := (["MODULUS", "HALF", "is_word", "wrap", "signed", "add", "sub", "mul", "bit_and", "bit_or", "bit_xor", "shift_left", "shift_right", "_law_number", "_law_word", "_law_is", "_law_bits", "_law_shifts"] : List Str)
abbrev R : PySem.W.OpenRow := PySem.W.OpenLaw.row PySem.Challenge.rw_merestone_k00_words_modulo_65536
abbrev hk : PySem.W.Hook := He.hookX 6 fa fn ts [] ex
def ob (s : PySem.W.SharedT) : He.AlX := He.obsX 6 fa fn ts [] ex (HandSHeadRun.getT s)
theorem ob_eq (s : PySem.W.SharedT) : ob s = hk.obs s.abs := He.obsX_eq (HandSHeadRun.getT_eq s)
theorem run0 (w : World) : HandSHeadRun.RunEq R (PySem.W.view R.prog [20]) hk ob 40000 names (w.withFollow "special-get-raises" false) := by
  intro os
  kernel_rfl
theorem run1 (w : World) : HandSHeadRun.RunEq R (PySem.W.view R.prog [20]) hk ob 40000 names (w.withFollow "special-get-raises" true) := by
  intro os
  kernel_rfl
theorem run (w : World) : HandSHeadRun.RunEq R (PySem.W.view R.prog [20]) hk ob 40000 names w := PySem.W.byRow2 "special-get-raises" (P := fun w => HandSHeadRun.RunEq R (PySem.W.view R.prog [20]) hk ob 40000 names w) run0 run1 w
theorem tx_mk {w : World} {K : PySem.W.Frag} {h : Heap} {mg : Str → Option Value} (X : K.In h) (G : h.Ns mainGlobals mg) (c : He.SaysX fa fn ts [] ex w h K) : Tx K mg where
    f_is_word := c.t.d.def_ 0 (d := fnD0) rfl
    g_is_word := He.glo_ok X G (c.t.d.fact 0 (f := .glo "is_word") rfl)
    f_wrap := c.t.d.def_ 1 (d := fnD1) rfl
    g_wrap := He.glo_ok X G (c.t.d.fact 1 (f := .glo "wrap") rfl)
    f_signed := c.t.d.def_ 2 (d := fnD2) rfl
    g_signed := He.glo_ok X G (c.t.d.fact 2 (f := .glo "signed") rfl)
    f_add := c.t.d.def_ 3 (d := fnD3) rfl
    g_add := He.glo_ok X G (c.t.d.fact 3 (f := .glo "add") rfl)
    f_sub := c.t.d.def_ 4 (d := fnD4) rfl
    g_sub := He.glo_ok X G (c.t.d.fact 4 (f := .glo "sub") rfl)
    f_mul := c.t.d.def_ 5 (d := fnD5) rfl
    g_mul := He.glo_ok X G (c.t.d.fact 5 (f := .glo "mul") rfl)
    f_bit_and := c.t.d.def_ 6 (d := fnD6) rfl
    g_bit_and := He.glo_ok X G (c.t.d.fact 6 (f := .glo "bit_and") rfl)
    f_bit_or := c.t.d.def_ 7 (d := fnD7) rfl
    g_bit_or := He.glo_ok X G (c.t.d.fact 7 (f := .glo "bit_or") rfl)
    f_bit_xor := c.t.d.def_ 8 (d := fnD8) rfl
    g_bit_xor := He.glo_ok X G (c.t.d.fact 8 (f := .glo "bit_xor") rfl)
    f_shift_left := c.t.d.def_ 9 (d := fnD9) rfl
    g_shift_left := He.glo_ok X G (c.t.d.fact 9 (f := .glo "shift_left") rfl)
    f_shift_right := c.t.d.def_ 10 (d := fnD10) rfl
    g_shift_right := He.glo_ok X G (c.t.d.fact 10 (f := .glo "shift_right") rfl)
    f__law_number := c.t.d.def_ 11 (d := fnD11) rfl
    g__law_number := He.glo_ok X G (c.t.d.fact 11 (f := .glo "_law_number") rfl)
    f__law_word := c.t.d.def_ 12 (d := fnD12) rfl
    g__law_word := He.glo_ok X G (c.t.d.fact 12 (f := .glo "_law_word") rfl)
    f__law_is := c.t.d.def_ 13 (d := fnD13) rfl
    g__law_is := He.glo_ok X G (c.t.d.fact 13 (f := .glo "_law_is") rfl)
    f__law_bits := c.t.d.def_ 14 (d := fnD14) rfl
    g__law_bits := He.glo_ok X G (c.t.d.fact 14 (f := .glo "_law_bits") rfl)
    f__law_shifts := c.t.d.def_ 15 (d := fnD15) rfl
    g__law_shifts := He.glo_ok X G (c.t.d.fact 15 (f := .glo "_law_shifts") rfl)
    f_law := c.t.d.def_ 16 (d := fnD16) rfl
    g_law := He.glo_ok X G (c.t.d.fact 16 (f := .glo "law") rfl)
    g_MODULUS := M.gc_int X G (c.t.d.fact 17 (f := .int "MODULUS" 65536) rfl)
    g_HALF := M.gc_int X G (c.t.d.fact 18 (f := .int "HALF" 32768) rfl)
    b_int := He.free_ok X G (c.t.d.fact 19 (f := .free "int") rfl)
    b_bool := He.free_ok X G (c.t.d.fact 20 (f := .free "bool") rfl)
    b_len := He.free_ok X G (c.t.d.fact 21 (f := .free "len") rfl)
    b_range := He.free_ok X G (c.t.d.fact 22 (f := .free "range") rfl)
    b_max := He.free_ok X G (c.t.d.fact 23 (f := .free "max") rfl)
    b_isinstance := He.free_ok X G (c.t.d.fact 24 (f := .free "isinstance") rfl)
end K00
open PySem PySem.W PySem.Calls PyProof.Rows
set_option maxHeartbeats 0 in
theorem PySem.Challenge.cw_merestone_k00_words_modulo_65536_holds : PySem.Challenge.rw_merestone_k00_words_modulo_65536.Holds := by
  w_on; o_law
  refine HandSHeadRun.head_any (r := OpenLaw.row PySem.Challenge.rw_merestone_k00_words_modulo_65536) (q := view (OpenLaw.row PySem.Challenge.rw_merestone_k00_words_modulo_65536).prog [20]) (H := K00.hk) (ob := K00.ob) (M := 40000) (loose := K00.names) (d := HandSHeadRun.topDef (OpenLaw.row PySem.Challenge.rw_merestone_k00_words_modulo_65536).prog 20) (kwd := []) K00.ob_eq
    (by kernel_rfl) (fun s => by kernel_rfl) K00.run (by kernel_rfl) (by kernel_rfl) (by kernel_rfl) (by rfl) (by first | assumption | decide +kernel) (by decide +kernel) ⟨rfl, rfl, rfl, rfl, rfl, by decide +kernel⟩ ?hw ?hc
  case hw => w_witness2
  case hc =>
    refine M.walk_end (l := PySem.Challenge.rw_merestone_k00_words_modulo_65536) (n := 63) (k := 3) (x := "script") (CX := fun _ => L2.CX0) rfl (by decide) (by kernel_rfl) ⟨rfl, by decide, by decide⟩ ?F (fun _ _ _ _ _ z => z)
    intro w mg fa h Y G hmg0
    obtain ⟨K, KX, c⟩ := Y
    have hmg : mg ("law" : PySem.Str) = some (.ref fa) := by
      have e : (HandSHeadRun.topDef (OpenLaw.row PySem.Challenge.rw_merestone_k00_words_modulo_65536).prog 20).name = ("law" : PySem.Str) := by kernel_rfl
      rw [← e]
      exact hmg0
    have T := K00.tx_mk KX G c
    have e := hmg.symm.trans T.g_law
    cases e
    obtain ⟨fd, F⟩ := T.f_law
    exact ⟨K, fd, K00.sp_law K, KX, fun s u => L2.FunD.bindsA (ps := ["script"]) F (fun _ _ _ _ _ _ us hl => match us, hl with | [_], _ => rfl) s [u] rfl, fun H a ns hl _ hS => ⟨a, ns, rfl, hS, hl, fun _ => rfl⟩, fun base KB GB => K00.ok_law T F⟩
