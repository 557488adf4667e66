import PyProof.Rows.All
import Wide.All
import OpenK.AllK
import Wide.FinOn
import HandS.ForMost
import HandS.ForExc
import HandS.IsInst
import HandS.TupAny
import HandS.Wide
import HandS.Walk
import HandS.Defaults
import KE.GoesRaise
import KE.KAsSuite
import KE.KExcSuper
import HandS.ExcInit
import HandS.ExcField
import HandS.DictSubMake
import HandS.ExcIs
import KE.GoesEnum
import HandS.TupSets
import KE.SortData
import HandS.SetFor
import PyProof.Rows.StrJoinRep
import HandS.ReplaceLit
import PyProof.Rows.StrStrike
import HandS.Small
import HandS.Style
import PyProof.ListStr
import HandS.Slots
import HandS.Property
import HandS.More
import HandS.Zip
import HandS.CallSlots
import HandS.ExcOwn
import KE.KExcIs
import PyProof.Rows.IntBool
import HandS.Words
import HandS.Ends
import PySem.Challenge.RW_oldmap_k52_whole_wrong_codes_located
set_option Elab.async false
set_option linter.all false
set_option maxRecDepth 100000
set_option maxHeartbeats 4000000
namespace K52
open PySem L2
open PyProof.Rows (envOfC)
/-! ### the text by places -/
def top (i : Nat) : Stmt := PySem.Challenge.pw_oldmap_k52_whole_wrong_codes_located.main.body.getD i (.Pass ⟨0, 0, 0, 0⟩)
/-! ### a def that stands behind the top, called by its name -/
structure DefOk (P : Program) (w : World) (K : PySem.W.Frag) (mg : Str → Option Value) (base : Heap) (CX : CXT) (k : Nat) (x : Str) (sp : Sp) : Prop where
  ex : ∃ f fd ps, FnOk P w K mg base CX k f fd ps sp ∧ mg x = some (.ref f) ∧ PySem.W.keepIn K (.ref f) = true ∧ Binds K fd ps []
/-- a def of the top, found: all that its promise's proof wants -/
structure DefAt (K : PySem.W.Frag) (mg : Str → Option Value) (x : Str) (st : Stmt) (ps : List Str) : Prop where
  ex : ∃ f fd, Fun K x x st f fd ∧ mg x = some (.ref f) ∧ Binds K fd ps []
section
variable {X : Cx} {CX : CXT} {k : Nat} {x : Str} {sp : Sp} {E : XK} {p pos : Pos} {e : Expr} {es : List Expr} {t : TA}
theorem pe_c (D : DefOk X.prog X.w X.K X.mg X.base CX k x sp) (hr : Room k X.A) (hx : Passes CX X E) (ha : PA X (e :: es) t) (hg : Gl X x := by rfl) (hdb : (x == ("__debug__" : Str)) = false := by decide)
    (he : starEach (e :: es) X.env = (false, eval e X.env) :: starEach es X.env := by rfl) (hpl : (backTo pos (starEach es X.env)).any (·.1) = false := by rfl) :
    PE X (.Call (.Name x p) (e :: es) [] pos) (tCall sp [] E t) := by
  obtain ⟨f, fd, ps, F, hm, hk, hb⟩ := D.ex
  exact pe_call F hr hg hm hk hb .nil hx ha hdb he hpl
theorem pe_c0 (D : DefOk X.prog X.w X.K X.mg X.base CX k x sp) (hr : Room k X.A) (hx : Passes CX X E) (hg : Gl X x := by rfl) (hdb : (x == ("__debug__" : Str)) = false := by decide) :
    PE X (.Call (.Name x p) [] [] pos) (tCall sp [] E tNil) := by
  obtain ⟨f, fd, ps, F, hm, hk, hb⟩ := D.ex
  exact pe_call0 F hr hg hm hk hb .nil hx hdb
/-- a module's constant -/
theorem pe_k {v : V} (T : ∃ u, X.mg x = some u ∧ RelV v u) (hg : Gl X x := by rfl) (hdb : (x == ("__debug__" : Str)) = false := by decide) : PE X (.Name x pos) (tC v) := by
  obtain ⟨u, hm, r⟩ := T
  exact pe_glob hg hm r hdb
end
section
variable {P : Program} {w : World} {K : PySem.W.Frag} {mg : Str → Option Value} {base : Heap}
/-- the rule for a def that lets nothing out -/
theorem DefAt.ok {x : Str} {st : Stmt} {N ps : List Str} {k : Nat} {sp : Sp} (D : DefAt K mg x st ps) (S : FnScope N ps (defScope st)) (len : ∀ vs H Q E, sp vs H Q E → vs.length = ps.length)
    (hbody : ∀ (f : Addr) (cdv : Value) (A : Around) (outer : List Env) (s : Shared) (H : Hp) (vs : List V) (Q : VK) (E : XK), Room k (A.deeper (envOfC x (defScope st) s.heap.objs.size f cdv)) → sp vs H Q E →
      ∃ t, PSs (cxOf CX0 P w K mg base N x (defScope st) f cdv A outer s H E).nox (defBody st) t ∧ t { nx := fun _ H' => Q .non H', rt := Q } (start N vs) H) : DefOk P w K mg base CX0 (k + 1) x sp := by
  obtain ⟨f, fd, F, hm, hb⟩ := D.ex
  exact ⟨f, fd, ps, F.ok S len (hbody f), hm, F.kp, hb⟩
end
/-! ### built-ins by name -/
theorem bt_int : bootBuiltins "int" = some (.type "int") := by decide +kernel
theorem bt_bool : bootBuiltins "bool" = some (.type "bool") := by decide +kernel
theorem bt_dict : bootBuiltins "dict" = some (.type "dict") := by decide +kernel
theorem bt_tuple : bootBuiltins "tuple" = some (.type "tuple") := by decide +kernel
theorem bt_list : bootBuiltins "list" = some (.type "list") := by decide +kernel
theorem bt_str : bootBuiltins "str" = some (.type "str") := by decide +kernel
theorem bt_set : bootBuiltins "set" = some (.type "set") := by decide +kernel
theorem bt_range : bootBuiltins "range" = some (.type "range") := by decide +kernel
theorem bt_max : bootBuiltins "max" = some (.builtin "max") := by decide +kernel
theorem bt_min : bootBuiltins "min" = some (.builtin "min") := by decide +kernel
theorem bt_zip : bootBuiltins "zip" = some (.type "zip") := by decide +kernel
theorem bt_all : bootBuiltins "all" = some (.builtin "all") := by decide +kernel
theorem bt_enumerate : bootBuiltins "enumerate" = some (.type "enumerate") := by decide +kernel
theorem bt_sorted : bootBuiltins "sorted" = some (.builtin "sorted") := by decide +kernel
theorem bt_abs : bootBuiltins "abs" = some (.builtin "abs") := by decide +kernel
theorem bt_isinstance : bootBuiltins "isinstance" = some (.builtin "isinstance") := by decide +kernel
theorem bt_len : bootBuiltins "len" = some (.builtin "len") := by decide +kernel
/-! ### what stands behind the top: the module's constants, the built-ins that no name hides -/
structure Txt (K : PySem.W.Frag) (mg : Str → Option Value) : Prop where
  b_len : mg "len" = none
  b_int : mg "int" = none
  b_bool : mg "bool" = none
  b_dict : mg "dict" = none
  b_tuple : mg "tuple" = none
  b_list : mg "list" = none
  b_str : mg "str" = none
  b_isinstance : mg "isinstance" = none
  b_range : mg "range" = none
  b_max : mg "max" = none
  b_min : mg "min" = none
  b_abs : mg "abs" = none
  b_zip : mg "zip" = none
  b_all : mg "all" = none
  b_enumerate : mg "enumerate" = none
  b_sorted : mg "sorted" = none
  b_set : mg "set" = none
  CHECK : ∃ u, mg "CHECK" = some u ∧ RelV (.int 241) u
  MAX_PACES : ∃ u, mg "MAX_PACES" = some u ∧ RelV (.int 20) u

/-! ### the readings, opened one constructor at a time (each closes by its own definition) -/
section
variable {σ : St} {H : Hp} {Q : VK} {ta tb tc te to ti tv : TE} {t tr : TA} {r r' : R2} {v x y : V} {i : Nat} {K : PySem.W.Frag} {D : Ends} {g : TG} {gs : TGs} {t1 t2 : TS} {c : TT} {B : Bool → Hp → Prop} {G : St → Hp → Prop} {N : Option Int → Hp → Prop}
theorem w_var (h : σ[i]? = some (some v)) (q : Q v H) : tVar i σ H Q := ⟨v, h, q⟩
theorem w_c (q : Q v H) : tC v σ H Q := q
theorem w_op (q : ta σ H fun x H1 => tb σ H1 fun y H2 => r x y H2 Q) : tOp r ta tb σ H Q := q
theorem w_un {u : V → Hp → VK → Prop} (q : ta σ H fun x H1 => u x H1 Q) : tUn u ta σ H Q := q
theorem w_cb {u : List V → Hp → VK → Prop} (q : t σ H fun vs H1 => u vs H1 Q) : tCB u t σ H Q := q
theorem w_nil {R : List V → Hp → Prop} (q : R [] H) : tNil σ H R := q
theorem w_cons {R : List V → Hp → Prop} (q : ta σ H fun x H1 => tr σ H1 fun xs H2 => R (x :: xs) H2) : tCons ta tr σ H R := q
theorem w_call {sp : Sp} {E : XK} (q : t σ H fun vs H1 => sp (vs ++ []) H1 Q E) : tCall sp [] E t σ H Q := q
theorem w_andV (q : ta σ H fun x H1 => ∃ c, x = .bl c ∧ if c = true then tb σ H1 Q else Q (.bl false) H1) : tAndV ta tb σ H Q := q
theorem w_orV (q : ta σ H fun x H1 => ∃ c, x = .bl c ∧ if c = true then Q (.bl true) H1 else tb σ H1 Q) : tOrV ta tb σ H Q := q
theorem w_notV (q : ta σ H fun x H1 => ∃ c, x = .bl c ∧ Q (.bl (!c)) H1) : tNotV ta σ H Q := q
theorem w_if (q : c σ H fun c H1 => if c = true then ta σ H1 Q else tb σ H1 Q) : tIf c ta tb σ H Q := q
theorem w_test (q : te σ H fun x H' => ∃ k, x = .bl k ∧ B k H') : tTest te σ H B := q
theorem w_tB (q : te σ H fun x H' => ∃ k, x = .bl k ∧ B k H') : tB te σ H B := q
theorem w_and {u : TT} (q : c σ H fun c H1 => if c = true then u σ H1 B else B false H1) : tAnd c u σ H B := q
theorem w_or {u : TT} (q : c σ H fun c H1 => if c = true then B true H1 else u σ H1 B) : tOr c u σ H B := q
theorem w_not (q : c σ H fun c H1 => B (!c) H1) : tNot c σ H B := q
theorem w_yes (q : B true H) : tYes σ H B := q
theorem w_chain (q : ta σ H fun x H1 => tb σ H1 fun y H2 => r x y H2 fun z H3 => ∃ k, z = .bl k ∧ if k = true then tc σ H3 fun x' H4 => r' y x' H4 Q else Q (.bl false) H3) : tChain r r' ta tb tc σ H Q := q
theorem w_tup (q : t σ H fun xs H1 => xs.length ≤ sizeLine ∧ ∀ p, H1 p = none → Q (.ref p) (upd H1 p (.tup xs))) : tTup t σ H Q := q
theorem w_lst (q : t σ H fun xs H1 => xs.length ≤ sizeLine ∧ ∀ p, H1 p = none → Q (.ref p) (upd H1 p (.lst xs))) : tLst t σ H Q := q
theorem w_new {o : HO} (q : ∀ p H', H p = none → Same H H' → H' p = some o → Q (.ref p) H') : ∀ p, H p = none → Q (.ref p) (upd H p o) := fun p hp =>
  q p _ hp (fun b u e => by rw [upd_ne (ne_of_none e hp)]; exact e) upd_same
theorem w_sl {u : V → Option Int → Option Int → Hp → VK → Prop} {tl th : TO} (q : te σ H fun x H1 => tl σ H1 fun l H2 => th σ H2 fun h H3 => u x l h H3 Q) : tSl u te tl th σ H Q := q
theorem w_part (q : te σ H fun x H1 => ∃ i, x = .int i ∧ N (some i) H1) : tPart te σ H N := q
theorem w_noPart (q : N none H) : tNoPart σ H N := q
theorem w_bm {T : String} {u : V → List V → Hp → VK → Prop} (q : to σ H fun x H1 => tyV K T x H1 ∧ t σ H1 fun xs H2 => u x xs H2 Q) : tBM K T u to t σ H Q := q
theorem w_bm0 {T : String} {u : V → List V → Hp → VK → Prop} (q : to σ H fun x H1 => tyV K T x H1 ∧ u x [] H1 Q) : tBM0 K T u to σ H Q := q
theorem w_m1 {u : V → List V → Hp → VK → Prop} (q : to σ H fun x H1 => (∃ a, x = .str a) ∧ te σ H1 fun y H2 => u x [y] H2 Q) : tM1 u to te σ H Q := q
-- statements
theorem w_seq (q : t1 { D with nx := t2 D } σ H) : tSeq t1 t2 D σ H := q
theorem w_next (q : D.nx σ H) : tNext D σ H := q
theorem w_asg (q : te σ H fun x H1 => g x σ H1 D.nx) : tAsg te g D σ H := q
theorem w_par {i j : Nat} (q : t σ H fun vs H1 => ∃ v w, vs = [v, w] ∧ D.nx ((σ.set i (some v)).set j (some w)) H1) : tPar i j t D σ H := q
theorem w_drop (q : te σ H fun _ H1 => D.nx σ H1) : tDrop te D σ H := q
theorem w_ret (q : te σ H D.rt) : tRet te D σ H := q
theorem w_retN (q : D.rt .non H) : tRetN D σ H := q
theorem w_ifS (q : c σ H fun b H1 => if b = true then t1 D σ H1 else t2 D σ H1) : tIfS c t1 t2 D σ H := q
theorem w_gname (q : G (σ.set i (some v)) H) : gName i v σ H G := q
theorem w_gtup {n : Nat} {a : Addr} {xs : List V} (h : SqT K H a xs) (hn : xs.length = n) (q : gs xs σ H G) : gTup K n gs (.ref a) σ H G := ⟨a, xs, rfl, h, hn, q⟩
theorem w_gcons {u : TGs} {vs : List V} (q : g v σ H fun σ' H' => u vs σ' H' G) : gCons g u (v :: vs) σ H G := ⟨v, vs, rfl, q⟩
theorem w_gnil (q : G σ H) : gNil [] σ H G := ⟨rfl, q⟩
theorem w_gsub {u : TSet} (q : to σ H fun o H1 => ti σ H1 fun i H2 => u o i v H2 fun H3 => G σ H3) : gSub to ti u v σ H G := q
-- operators on values
theorem w_I0 {f : Int → Int → V} {i j : Int} (q : Q (f i j) H) : rI0 f (.int i) (.int j) H Q := ⟨i, j, rfl, rfl, q⟩
theorem w_I {C : Int → Int → Prop} {f : Int → Int → V} {i j : Int} (h : C i j) (q : Q (f i j) H) : rI C f (.int i) (.int j) H Q := ⟨i, j, rfl, rfl, h, q⟩
theorem w_U {f : Int → V} {i : Int} (q : Q (f i) H) : rU f (.int i) H Q := ⟨i, rfl, q⟩
theorem w_eq (h : scal x y = true) (q : Q (.bl (decide (x = y))) H) : rEq x y H Q := ⟨h, q⟩
theorem w_ne (h : scal x y = true) (q : Q (.bl (!decide (x = y))) H) : rNe x y H Q := ⟨h, q⟩
theorem w_ixL {p : Addr} {xs : List V} {i : Int} (h : SqL K H p xs) (ha : atI xs i = some v) (q : Q v H) : rIxL K (.ref p) (.int i) H Q := ⟨p, xs, i, v, rfl, rfl, h, ha, q⟩
theorem w_ixT {p : Addr} {xs : List V} {i : Int} (h : SqT K H p xs) (ha : atI xs i = some v) (q : Q v H) : rIxT K (.ref p) (.int i) H Q := ⟨p, xs, i, v, rfl, rfl, h, ha, q⟩
theorem w_ixS {z : Str} {i : Int} {c : Nat} (h : z.length ≤ sizeLine) (ha : atI z.cps.toList i = some c) (q : Q (.str ⟨#[c]⟩) H) : rIxS (.str z) (.int i) H Q := ⟨z, i, c, rfl, rfl, h, ha, q⟩
theorem w_catA {a b : Addr} {xs ys : List V} (h : SqT K H a xs) (h' : SqT K H b ys) (hl : xs.length + ys.length ≤ sizeLine) (q : ∀ p H', Same H H' → SqT K H' p (xs ++ ys) → Q (.ref p) H') : rCatA K (.ref a) (.ref b) H Q := by
  refine ⟨a, b, xs, ys, rfl, rfl, h, h', hl, fun e => ?_, fun _ e => ?_, fun _ _ => w_new fun p H' _ s e => q p H' s (SqT.of e)⟩
  · subst e
    exact q b H (Same.refl H) h'
  · subst e
    exact q a H (Same.refl H) (by rw [List.append_nil]; exact h)
theorem w_cat {a b : Addr} {xs ys : List V} (h : H a = some (.lst xs)) (h' : H b = some (.lst ys)) (hl : xs.length + ys.length ≤ sizeLine) (q : ∀ p H', H p = none → Same H H' → H' p = some (.lst (xs ++ ys)) → Q (.ref p) H') : rCat (.ref a) (.ref b) H Q :=
  ⟨a, b, xs, ys, rfl, rfl, h, h', hl, w_new q⟩
theorem w_setL {p : Addr} {xs : List V} {k : Int} {j : Nat} {F : Hp → Prop} (h : H p = some (.lst xs)) (hj : ixN xs.length k = some j) (q : F (upd H p (.lst (xs.set j v)))) : rSetL (.ref p) (.int k) v H F := ⟨p, xs, k, j, rfl, rfl, h, hj, q⟩
theorem w_app {p : Addr} {xs : List V} (h : H p = some (.lst xs)) (hl : xs.length < sizeLine) (q : Q .non (upd H p (.lst (xs ++ [v])))) : rAppend (.ref p) [v] H Q := ⟨p, xs, v, rfl, rfl, h, hl, q⟩
end
theorem atI_0 {α : Type} {a : α} {l : List α} : atI (a :: l) 0 = some a := by
  unfold atI ixN
  rw [if_pos (by omega), if_pos (by rw [List.length_cons]; omega)]
  rfl
theorem atI_1 {α : Type} {a b : α} {l : List α} : atI (a :: b :: l) 1 = some b := by
  unfold atI ixN
  rw [if_pos (by omega), if_pos (by rw [List.length_cons, List.length_cons]; omega)]
  rfl
theorem atI_2 {α : Type} {a b c : α} {l : List α} : atI (a :: b :: c :: l) 2 = some c := by
  unfold atI ixN
  rw [if_pos (by omega), if_pos (by rw [List.length_cons, List.length_cons, List.length_cons]; omega)]
  rfl
/-- len of a list or a tuple -/
def rLen (K : PySem.W.Frag) : List V → Hp → VK → Prop := fun xs H Q => ∃ p ys, xs = [V.ref p] ∧ (SqL K H p ys ∨ SqT K H p ys) ∧ Q (V.int ys.length) H
theorem call_lenK {X : Cx} : CallR X (.builtin "len") (rLen X.K) := call_len_seq
theorem w_lenL {K : PySem.W.Frag} {H : Hp} {p : Addr} {ys : List V} {Q : VK} (h : SqL K H p ys) (q : Q (V.int ys.length) H) : rLen K [.ref p] H Q := ⟨p, ys, rfl, .inl h, q⟩
theorem w_lenT {K : PySem.W.Frag} {H : Hp} {p : Addr} {ys : List V} {Q : VK} (h : SqT K H p ys) (q : Q (V.int ys.length) H) : rLen K [.ref p] H Q := ⟨p, ys, rfl, .inr h, q⟩
/-! ### tests whose answer hangs on a decidable thing -/
theorem ifT {c : Bool} {A B : Prop} (e : c = true) (h : A) : if c = true then A else B := by
  rw [if_pos e]
  exact h
theorem ifF {c : Bool} {A B : Prop} (e : c = false) (h : B) : if c = true then A else B := by
  rw [e]
  exact h
theorem ited {p A B : Prop} [Decidable p] (h1 : p → A) (h2 : ¬ p → B) : if decide p = true then A else B := by
  by_cases h : p
  · rw [if_pos (decide_eq_true h)]
    exact h1 h
  · rw [if_neg (by rw [decide_eq_false h]; decide)]
    exact h2 h
theorem itend {p A B : Prop} [Decidable p] (h1 : ¬ p → A) (h2 : p → B) : if (!decide p) = true then A else B := by
  by_cases h : p
  · rw [if_neg (by rw [decide_eq_true h]; decide)]
    exact h2 h
  · rw [if_pos (by rw [decide_eq_false h]; rfl)]
    exact h1 h
theorem iteb {b : Bool} {A B : Prop} (h1 : b = true → A) (h2 : b = false → B) : if b = true then A else B := by
  cases b with
  | true => exact iteT (h1 rfl)
  | false => exact iteF (h2 rfl)
theorem updN {H H1 : Hp} {p : Addr} {o : HO} (n : H p = none) (e : upd H p o = H1) : Same H H1 ∧ H1 p = some o := by
  subst e
  exact ⟨fun b u q => by rw [upd_ne (ne_of_none q n)]; exact q, upd_same⟩
/-! ### all that was tracked is as it was -/
theorem Same.seqT {K : PySem.W.Frag} {H H' : Hp} {a : Addr} {xs : List V} (e : Same H H') (h : SqT K H a xs) : SqT K H' a xs := by
  rcases h with (h | ⟨o, h⟩) | h
  · exact .inl (.inl (e _ _ h))
  · exact .inl (.inr ⟨o, e _ _ h⟩)
  · exact .inr h
theorem w_slA {K : PySem.W.Frag} {H : Hp} {a : Addr} {xs : List V} {lo hi : Option Int} {Q : VK} (h : SqT K H a xs) (q : ∀ p H', Same H H' → SqT K H' p (cutV xs lo hi) → Q (.ref p) H') : rSlA K (.ref a) lo hi H Q := by
  refine ⟨a, xs, rfl, h, fun e => q a H (Same.refl H) ?_, fun _ p n => q p _ ?_ ?_⟩
  · unfold cutV
    rw [e.1, e.2, List.drop_zero, Nat.sub_zero, List.take_length]
    exact h
  · exact (updN n rfl).1
  · exact SqT.of (updN n rfl).2
theorem w_slL {K : PySem.W.Frag} {H : Hp} {a : Addr} {xs : List V} {lo hi : Option Int} {Q : VK} (h : SqL K H a xs) (q : ∀ p H', H p = none → Same H H' → H' p = some (.lst (cutV xs lo hi)) → Q (.ref p) H') : rSlL K (.ref a) lo hi H Q :=
  ⟨a, xs, rfl, h, fun p n => q p _ n (updN n rfl).1 (updN n rfl).2⟩
theorem w_while {c : TT} {tb : TS} {D : Ends} {σ : St} {H : Hp} (W : Nat → St → Hp → Prop) (m : Nat) (h0 : W m σ H) (ht : ∀ m σ H, W m σ H →
    c σ H fun b H1 => if b = true then ∃ N : St → Hp → Prop, (∀ σ' H', N σ' H' → ∃ m', m' < m ∧ W m' σ' H') ∧ tb { D with nx := N, ct := N, bk := D.nx } σ H1 else D.nx σ H1) : tWhile c tb D σ H := ⟨W, ⟨m, h0⟩, ht⟩
theorem small {n : Nat} (h : n ≤ 1000000) : n ≤ sizeLine := Nat.le_trans h (by decide)
theorem smallL {n : Nat} (h : n ≤ 1000000) : n < sizeLine := Nat.lt_of_le_of_lt h (by decide)
/-! ### loops -/
section
variable {σ : St} {H : Hp} {te tl : TE} {ta : TA} {g : TG} {tb : TS} {D : Ends} {K : PySem.W.Frag} {wi : TI} {tt : TT} {vs : List Nat} {Q : VK} {R : It → Hp → Prop} {a b : Addr} {xs ys : List V}
def LoopOk (J : It) (g : TG) (tb : TS) (D : Ends) (σ : St) (H : Hp) : Prop := ∃ W : Nat → Nat → St → Hp → Prop, (∃ m, W 0 m σ H) ∧ ∀ i m σ H, W i m σ H →
  (J.stop i H ∧ D.nx σ H) ∨ (J.go i H ∧ ∃ N : St → Hp → Prop, (∀ σ' H', N σ' H' → ∃ m', m' < m ∧ W (i + 1) m' σ' H') ∧ ∀ x H', J.yld i H x H' → g x σ H' fun σ2 H2 => tb { D with nx := N, ct := N, bk := D.nx } σ2 H2)
theorem w_for (q : wi σ H fun J H1 => LoopOk J g tb D σ H1) : tFor wi g tb D σ H := q
def CompOk (J : It) (g : TG) (tt : TT) (te : TE) (vs : List Nat) (σ : St) (Q : VK) (H1 : Hp) : Prop := ∀ D, H1 D = none → ∃ W : Nat → Nat → Hp → Prop, (∃ m, W 0 m (upd H1 D (.lst []))) ∧ ∀ i m H, W i m H →
  (J.stop i H ∧ Q (.ref D) H) ∨ (J.go i H ∧ ∃ Nx : Hp → Prop, (∀ H', Nx H' → ∃ m', m' < m ∧ W (i + 1) m' H') ∧ ∀ x H', J.yld i H x H' → g x (wipe σ vs) H' fun σ2 H2 => wipe σ2 vs = wipe σ vs ∧ tt σ2 H2 fun b H3 =>
    if b = true then te σ2 H3 fun y H4 => ∃ acc, H4 D = some (.lst acc) ∧ acc.length < sizeLine ∧ Nx (upd H4 D (.lst (acc ++ [y]))) else Nx H3)
theorem w_lc (q : wi σ H fun J H1 => CompOk J g tt te vs σ Q H1) : tLc wi g tt te vs σ H Q := q
theorem w_iList (q : tl σ H fun x H1 => ∃ a, x = .ref a ∧ (∃ xs, SqL K H1 a xs) ∧ R (Itl K a) H1) : iList K tl σ H R := q
theorem w_iTup (q : tl σ H fun x H1 => ∃ a, x = .ref a ∧ (∃ xs, SqT K H1 a xs) ∧ R (Itt K a) H1) : iTup K tl σ H R := q
theorem w_iRng1 (q : ta σ H fun vs H1 => ∃ j : Int, vs = [.int j] ∧ -(2 ^ 62) ≤ j ∧ j < 2 ^ 62 ∧ R (Itr 0 j.toNat) H1) : iRng1 ta σ H R := q
theorem w_iRng2 (q : ta σ H fun vs H1 => ∃ i j : Int, vs = [.int i, .int j] ∧ (-(2 ^ 62) ≤ i ∧ i < 2 ^ 62 ∧ -(2 ^ 62) ≤ j ∧ j < 2 ^ 62) ∧ R (Itr i (j - i).toNat) H1) : iRng2 ta σ H R := q
theorem w_iStr (q : te σ H fun v H1 => ∃ x, v = .str x ∧ R (Its x) H1) : iStr te σ H R := q
/-- over a list that stands -/
theorem lp_list (hs : SqL K H a xs) (Pv : Nat → St → Hp → Prop) (h0 : Pv 0 σ H) (hl : ∀ i σ H, i ≤ xs.length → Pv i σ H → SqL K H a xs)
    (ht : ∀ i x σ H, xs[i]? = some x → Pv i σ H → g x σ H fun σ2 H2 => tb { D with nx := Pv (i + 1), ct := Pv (i + 1), bk := D.nx } σ2 H2) (hd : ∀ σ H, Pv xs.length σ H → D.nx σ H) :
    (∃ xs, SqL K H a xs) ∧ LoopOk (Itl K a) g tb D σ H := ⟨⟨xs, hs⟩, for_list Pv h0 hl ht hd⟩
theorem lp_tup (hs : SqT K H a xs) (Pv : Nat → St → Hp → Prop) (h0 : Pv 0 σ H) (hl : ∀ i σ H, i ≤ xs.length → Pv i σ H → SqT K H a xs)
    (ht : ∀ i x σ H, xs[i]? = some x → Pv i σ H → g x σ H fun σ2 H2 => tb { D with nx := Pv (i + 1), ct := Pv (i + 1), bk := D.nx } σ2 H2) (hd : ∀ σ H, Pv xs.length σ H → D.nx σ H) :
    (∃ xs, SqT K H a xs) ∧ LoopOk (Itt K a) g tb D σ H := ⟨⟨xs, hs⟩, for_tup Pv h0 hl ht hd⟩
theorem lp_rng2 {i j : Int} (hb : -(2 ^ 62) ≤ i ∧ i < 2 ^ 62 ∧ -(2 ^ 62) ≤ j ∧ j < 2 ^ 62) (Pv : Nat → St → Hp → Prop) (h0 : Pv 0 σ H)
    (ht : ∀ m σ H, m < (j - i).toNat → Pv m σ H → g (.int (i + (m : Int))) σ H fun σ2 H2 => tb { D with nx := Pv (m + 1), ct := Pv (m + 1), bk := D.nx } σ2 H2) (hd : ∀ σ H, Pv (j - i).toNat σ H → D.nx σ H) :
    (-(2 ^ 62) ≤ i ∧ i < 2 ^ 62 ∧ -(2 ^ 62) ≤ j ∧ j < 2 ^ 62) ∧ LoopOk (Itr i (j - i).toNat) g tb D σ H := ⟨hb, for_range (lo := i) (n := (j - i).toNat) Pv h0 ht hd⟩
theorem lp_rng1 {n : Nat} {j : Int} (hj : j = (n : Int)) (hn : n ≤ 1000000) (Pv : Nat → St → Hp → Prop) (h0 : Pv 0 σ H)
    (ht : ∀ i σ H, i < n → Pv i σ H → g (.int (i : Int)) σ H fun σ2 H2 => tb { D with nx := Pv (i + 1), ct := Pv (i + 1), bk := D.nx } σ2 H2) (hd : ∀ σ H, Pv n σ H → D.nx σ H) :
    -(2 ^ 62) ≤ j ∧ j < 2 ^ 62 ∧ LoopOk (Itr 0 j.toNat) g tb D σ H := by
  subst hj
  refine ⟨by omega, by omega, ?_⟩
  rw [Int.toNat_natCast]
  refine for_range (lo := 0) (n := n) Pv h0 (fun i σ H hi p => ?_) hd
  have e : (0 : Int) + (i : Int) = (i : Int) := Int.zero_add _
  rw [e]
  exact ht i σ H hi p
end
/-! ### facts are carried over heaps that grow -/
local macro_rules | `(tactic| walk_at "sq") => `(tactic| (first | assumption | exact SqL.of (by assumption) | exact SqT.of (by assumption) | (apply Same.seq; assumption; walk_at "sq") | (apply Same.seqT; assumption; walk_at "sq") | solve_by_elim (maxDepth := 30) [Same.seq, Same.seqT, SqL.of, SqT.of]))
/-- the readings' plain steps -/
local macro_rules | `(tactic| walk_at "g1") => `(tactic| (with_reducible first
  | refine w_seq ?_ | refine w_asg ?_ | refine w_cons ?_ | refine w_var rfl ?_ | refine w_c ?_ | refine w_nil ?_ | refine w_op ?_ | refine w_cb ?_ | refine w_call ?_ | refine w_I0 ?_ | refine w_gname ?_ | refine w_ret ?_
  | refine w_test ?_ | refine w_tB ?_ | refine w_and ?_ | refine w_or ?_ | refine w_not ?_ | refine w_yes ?_ | refine w_andV ?_ | refine w_orV ?_ | refine w_notV ?_ | refine w_if ?_ | refine w_ifS ?_ | refine w_chain ?_
  | refine w_tup ?_ | refine w_lst ?_ | refine w_sl ?_ | refine w_part ?_ | refine w_noPart ?_ | refine w_bm ?_ | refine w_bm0 ?_ | refine w_m1 ?_ | refine w_un ?_ | refine w_U ?_
  | refine w_par ?_ | refine w_drop ?_ | refine w_retN ?_ | refine w_gsub ?_ | refine w_gcons ?_ | refine w_gnil ?_ | refine w_next ?_ | refine w_for ?_ | refine w_lc ?_ | refine w_iList ?_ | refine w_iTup ?_ | refine w_iRng1 ?_ | refine w_iRng2 ?_ | refine w_iStr ?_
  | refine w_eq rfl ?_ | refine w_ne rfl ?_ | refine iteT ?_ | refine iteF ?_ | refine ⟨_, rfl, ?_⟩))
local macro_rules | `(tactic| walk_at "go") => `(tactic| repeat walk_at "g1")
local macro_rules | `(tactic| walk_at "ix") => `(tactic| (first
  | ((with_reducible show rIxL _ _ _ _ _); refine w_ixL (by walk_at "sq") (by first | rfl | exact atI_0 | exact atI_1 | exact atI_2) ?_)
  | ((with_reducible show rIxT _ _ _ _ _); refine w_ixT (by walk_at "sq") (by first | rfl | exact atI_0 | exact atI_1 | exact atI_2) ?_)
  | ((with_reducible show (∃ _, _ = [V.int _] ∧ _) ∨ _); refine Or.inl ⟨_, rfl, ?_⟩)
  | ((with_reducible show ∃ _ _, _ = [V.int _, V.int _] ∧ _); refine ⟨_, _, rfl, ?_⟩)
  | ((with_reducible show rLen _ _ _ _); (first | refine w_lenT (by assumption) ?_ | refine w_lenL (by assumption) ?_ | refine w_lenL (SqL.of (by assumption)) ?_ | refine w_lenT (SqT.of (by assumption)) ?_ | refine w_lenL (by walk_at "sq") ?_ | refine w_lenT (by walk_at "sq") ?_))))
local macro_rules | `(tactic| walk_at "gx") => `(tactic| repeat (first | walk_at "g1" | walk_at "ix"))
section
/-! ### flat values: None, bools, ints, texts -/
/-- what an item of a code may be -/
def itemV : V → Bool
  | .non => true
  | .bl _ => true
  | .int _ => true
  | .str _ => true
  | _ => false
def isInt : V → Bool
  | .int _ => true
  | .bl _ => true
  | _ => false
def isBl : V → Bool
  | .bl _ => true
  | _ => false
def isStr : V → Bool
  | .str _ => true
  | _ => false
section
variable {K : PySem.W.Frag} {H : Hp} {Q : VK} {v : V}
theorem isi_int (f : itemV v = true) (q : Q (.bl (isInt v)) H) : rIsi K [v, .ty "int"] H Q := by
  cases v with
  | non => exact ⟨_, _, _, _, _, rfl, .ty _, .base .non, kit_ty (show kitB _ _ = some false by decide +kernel), q⟩
  | bl b => exact ⟨_, _, _, _, _, rfl, .ty _, .base (.bl b), kit_ty (show kitB _ _ = some true by decide +kernel), q⟩
  | int i => exact ⟨_, _, _, _, _, rfl, .ty _, .base (.int i), kit_ty (show kitB _ _ = some true by decide +kernel), q⟩
  | str x => exact ⟨_, _, _, _, _, rfl, .ty _, .base (.str x), kit_ty (show kitB _ _ = some false by decide +kernel), q⟩
  | _ => cases f
theorem isi_bool (f : itemV v = true) (q : Q (.bl (isBl v)) H) : rIsi K [v, .ty "bool"] H Q := by
  cases v with
  | non => exact ⟨_, _, _, _, _, rfl, .ty _, .base .non, kit_ty (show kitB _ _ = some false by decide +kernel), q⟩
  | bl b => exact ⟨_, _, _, _, _, rfl, .ty _, .base (.bl b), kit_ty (show kitB _ _ = some true by decide +kernel), q⟩
  | int i => exact ⟨_, _, _, _, _, rfl, .ty _, .base (.int i), kit_ty (show kitB _ _ = some false by decide +kernel), q⟩
  | str x => exact ⟨_, _, _, _, _, rfl, .ty _, .base (.str x), kit_ty (show kitB _ _ = some false by decide +kernel), q⟩
  | _ => cases f
end
/-! ### is_number, is_range -/
def isNum (v : V) (lo hi : Int) : Bool := match v with
  | .int i => decide (lo ≤ i) && decide (i ≤ hi)
  | _ => false
def spNumber : Sp := fun vs H Q _ => ∃ (v : V) (lo hi : Int), vs = [v, .int lo, .int hi] ∧ itemV v = true ∧ Q (.bl (isNum v lo hi)) H
def spRange : Sp := fun vs H Q _ => ∃ (a b : Int), vs = [.int a, .int b] ∧ Q (.bl (isNum (.int a) 0 20 && isNum (.int b) a 20)) H
section
variable {P : Program} {w : World} {K : PySem.W.Frag} {mg : Str → Option Value} {base : Heap}
abbrev s_is_number : Stmt := top 12
theorem sc_is_number : FnScope ["value", "lowest", "highest"] ["value", "lowest", "highest"] (defScope s_is_number) := ⟨rfl, rfl, rfl, by decide +kernel, rfl, by decide +kernel, by decide +kernel⟩
theorem ok_is_number (D : DefAt K mg "is_number" s_is_number ["value", "lowest", "highest"]) (T : Txt K mg) : DefOk P w K mg base CX0 1 "is_number" spNumber := by
  refine D.ok sc_is_number (fun vs H Q E h => ?_) (fun f cdv A outer s H vs Q E hr h => ?_)
  · obtain ⟨v, lo, hi, rfl, _⟩ := h
    rfl
  · obtain ⟨v, lo, hi, rfl, fv, q⟩ := h
    refine ⟨_, (pss_one (ps_ret (pe_and (pe_callB call_isi rfl T.b_isinstance bt_isinstance (pa_cons (pv 0) (pa_cons (pe_bltn (v := .ty "int") (u := .type "int") rfl T.b_int bt_int rfl) pa_nil))) (pe_and (pe_not (pe_callB call_isi rfl T.b_isinstance bt_isinstance (pa_cons (pv 0) (pa_cons (pe_bltn (v := .ty "bool") (u := .type "bool") rfl T.b_bool bt_bool rfl) pa_nil)))) (pe_one (pe_chain op_le op_le (pv 1) (pv 0) (pv 2))))))), ?_⟩
    walk_at "go"
    refine isi_int fv ?_
    walk_at "go"
    cases v with
    | int i =>
      refine iteT ?_
      walk_at "go"
      refine isi_bool fv ?_
      walk_at "go"
      refine iteT ?_
      walk_at "go"
      refine ited (fun h1 => ?_) (fun h1 => ?_)
      · walk_at "go"
        have e : isNum (.int i) lo hi = decide (i ≤ hi) := by simp [isNum, h1]
        rw [e] at q
        exact q
      · have e : isNum (.int i) lo hi = false := by simp [isNum, h1]
        rw [e] at q
        exact q
    | bl b =>
      refine iteT ?_
      walk_at "go"
      refine isi_bool fv ?_
      walk_at "go"
      refine iteF ?_
      exact q
    | _ => exact iteF q
abbrev s_is_range : Stmt := top 29
theorem sc_is_range : FnScope ["least", "most"] ["least", "most"] (defScope s_is_range) := ⟨rfl, rfl, rfl, by decide +kernel, rfl, by decide +kernel, by decide +kernel⟩
theorem ok_is_range (D : DefAt K mg "is_range" s_is_range ["least", "most"]) (T : Txt K mg) (D_is_number : DefOk P w K mg base CX0 1 "is_number" spNumber) : DefOk P w K mg base CX0 2 "is_range" spRange := by
  refine D.ok sc_is_range (fun vs H Q E h => ?_) (fun f cdv A outer s H vs Q E hr h => ?_)
  · obtain ⟨a, b, rfl, _⟩ := h
    rfl
  · obtain ⟨a, b, rfl, q⟩ := h
    refine ⟨_, (pss_one (ps_ret (pe_and (pe_c D_is_number (hr.mono (by decide)) pass0 (pa_cons (pv 0) (pa_cons pe_int (pa_cons (pe_k T.MAX_PACES) pa_nil)))) (pe_one (pe_c D_is_number (hr.mono (by decide)) pass0 (pa_cons (pv 1) (pa_cons (pv 0) (pa_cons (pe_k T.MAX_PACES) pa_nil)))))))), ?_⟩
    walk_at "go"
    refine ⟨_, _, _, rfl, rfl, _, rfl, iteb (fun h1 => ?_) (fun h1 => ?_)⟩
    · walk_at "go"
      refine ⟨_, _, _, rfl, rfl, ?_⟩
      rw [h1] at q
      exact q
    · rw [h1] at q
      exact q
/-! ### checksum, _law_sum -/
def sumOf (f : Int) : List Int → Int
  | [] => f
  | v :: r => sumOf ((f * 17 + v) % 241) r
theorem sumOf_snoc (l : List Int) (f v : Int) : sumOf f (l ++ [v]) = ((sumOf f l) * 17 + v) % 241 := by
  induction l generalizing f with
  | nil => rfl
  | cons a r ih => exact ih _
theorem sumOf_range (l : List Int) (f : Int) (h : 0 ≤ f ∧ f < 241) : 0 ≤ sumOf f l ∧ sumOf f l < 241 := by
  induction l generalizing f with
  | nil => exact h
  | cons a r ih => exact ih _ ⟨Int.emod_nonneg _ (by decide), Int.emod_lt_of_pos _ (by decide)⟩
theorem take_ints {ns : List Int} {i : Nat} {x : V} (h : (ns.map V.int)[i]? = some x) : ∃ z, x = .int z ∧ ns[i]? = some z ∧ ns.take (i + 1) = ns.take i ++ [z] := by
  rw [List.getElem?_map] at h
  cases e : ns[i]? with
  | none => rw [e] at h; cases h
  | some z =>
    rw [e] at h
    exact ⟨z, (Option.some.inj h).symm, rfl, by rw [List.take_succ, e]; rfl⟩
def spSum (K : PySem.W.Frag) : Sp := fun vs H Q _ => ∃ (a : Addr) (ns : List Int), vs = [.ref a] ∧ SqL K H a (ns.map V.int) ∧ Q (.int (sumOf 3 ns)) H
abbrev s_checksum : Stmt := top 41
theorem sc_checksum : FnScope ["values", "found", "value"] ["values"] (defScope s_checksum) := ⟨rfl, rfl, rfl, by decide +kernel, rfl, by decide +kernel, by decide +kernel⟩
theorem ok_checksum (D : DefAt K mg "checksum" s_checksum ["values"]) (T : Txt K mg) : DefOk P w K mg base CX0 1 "checksum" (spSum K) := by
  refine D.ok sc_checksum (fun vs H Q E h => ?_) (fun f cdv A outer s H vs Q E hr h => ?_)
  · obtain ⟨a, ns, rfl, _⟩ := h
    rfl
  · obtain ⟨a, ns, rfl, hs, q⟩ := h
    refine ⟨_, (pss_cons (ps_set (i := 1) sc_checksum.nd rfl (by first | exact Or.inl rfl | exact Or.inr rfl) pe_int)
    (pss_cons (ps_for PassesOwn.never rfl (pi_list (pv 0)) (pg_name (i := 2) sc_checksum.nd rfl (by first | exact Or.inl rfl | exact Or.inr rfl))
      (pss_one (ps_set (i := 1) sc_checksum.nd rfl (by first | exact Or.inl rfl | exact Or.inr rfl) (pe_op op_modN (pe_callTy call_int1 rfl T.b_int bt_int (pa_cons (pe_op op_add (pe_op op_mul (pv 1) pe_int) (pv 2)) pa_nil)) (pe_k T.CHECK)))))
    (pss_one (ps_ret (pv 1))))), ?_⟩
    walk_at "go"
    refine lp_list hs (fun i σ H' => H' = H ∧ ∃ v, σ = [some (.ref a), some (.int (sumOf 3 (ns.take i))), v]) ⟨rfl, none, rfl⟩ (fun i σ H' _ p => by rw [p.1]; exact hs) ?_ ?_
    · rintro i x σ H' hi ⟨rfl, v, rfl⟩
      obtain ⟨z, rfl, hz, ht⟩ := take_ints hi
      have hb := sumOf_range (ns.take i) 3 (by decide)
      walk_at "go"
      refine w_I (.inl ⟨by omega, by omega⟩) ?_
      walk_at "go"
      refine .inl ⟨_, rfl, ?_⟩
      walk_at "go"
      refine w_I (by decide) ?_
      walk_at "go"
      refine ⟨rfl, some (.int z), ?_⟩
      rw [ht, sumOf_snoc, Int.fmod_eq_emod_of_nonneg _ (by decide)]
      rfl
    · rintro σ H' ⟨rfl, v, rfl⟩
      walk_at "go"
      rw [List.length_map, List.take_length]
      exact q
end
end
section
/-! ### an exception that leaves a list comprehension's element -/
section
open PySem.HandSPX
variable {X : Cx}
theorem traced_but {h h' base : Heap} {e L : Addr} {Z : Obj → Prop} {fl : Value} {m : Str → Option Value} (x : TracedZ h base e Z fl) (hn : h.Ns L m) (hs : Heap.SameBut L h h') : TracedZ h' base e Z fl := by
  obtain ⟨oe, vs, T, oT, ts, he, hz, hd, h1, hnT, hTe, hT, hdT, h3⟩ := x
  obtain ⟨oL, es, ep, hoL, hdL, _⟩ := hn
  have apart : ∀ {b : Addr} {o : Obj} {us : Array Value}, h.get? b = some o → o.data = .fields us → b ≠ L := fun {b o us} q d z => by
    rw [z, hoL] at q
    cases q
    rw [hdL] at d
    cases d
  exact ⟨oe, vs, T, oT, ts, (hs.2 e (apart he hd)).trans he, hz, hd, h1, hnT, hTe, (hs.2 T (apart hT hdT)).trans hT, hdT, h3⟩
/-- the ground without the block's names -/
theorem flying_less {B B' : Heap} {l : List Env} {e : Addr} {Z : Obj → Prop} {h : Heap} (k : ∀ b o, B'.get? b = some o → B.get? b = some o) (x : FlyingZ B l e Z h) : FlyingZ B' l e Z h := by
  have less : ∀ {b : Addr}, B.get? b = none → B'.get? b = none := fun {b} n => by
    cases q : B'.get? b with
    | none => rfl
    | some o => rw [k b o q] at n; cases n
  have fr : ∀ {l : List Env}, h.FunFrames B l → h.FunFrames B' l := fun {l} => by
    induction l with
    | nil => exact fun _ => trivial
    | cons env r ih =>
      rintro ⟨hk, ⟨L, o, hf, hb, ho, hd⟩, hr⟩
      exact ⟨hk, ⟨L, o, hf, less hb, ho, hd⟩, ih hr⟩
  obtain ⟨f1, f2, f3, oe, vs, T, oT, ts, he, hz, hd, h1, hnT, r⟩ := x
  exact ⟨fun b o e => f1 b o (k b o e), less f2, fr f3, oe, vs, T, oT, ts, he, hz, hd, h1, less hnT, r⟩
/-- the block's wish: what leaves it is noted by the def's frame, the block's names go, it goes on in the def -/
abbrev blkWish (X : Cx) (ce : Env) : Value → Shared → Prop := notedBy (model X.prog X.w) X.A ce (CompFails (model X.prog X.w) X.A X.xe ce)
theorem block_raise {pins pins' : List (Addr × Obj)} {σ σ' : St} {H3 H' : Hp} {s3 s s' : Shared} {scope : Scope} {ce : Env} {fp : List Addr} {xe : Value → Shared → Prop} {E : XK} {u : Value}
    (hs : X.stack = X.env :: X.outer) (hf : X.env.frame = some X.env.locals) (tk : Takes X (fun cls d _ H => E cls d H)) (I3 : Inv X pins σ H3 s3) (f3 : ∀ b ∈ fp, FpOk X pins H3 b) (hcf : ce.frame = X.env.frame) (hcl : ce.locals = s3.heap.objs.size)
    (J : Inv ((X.blk s3 H3 scope ce fp).wish xe) pins' σ' H' s) (c : L2.CX X.prog X.w X.stack H' s E u s') : blkWish X ce u s' := by
  obtain ⟨a, B, H2, cls, d, rfl, fl, hok, ub, na, os, ag, hE⟩ := c
  obtain ⟨m, hn, _⟩ := J.loc
  have hn : s.heap.Ns ce.locals m := hn
  have nC : H' ce.locals = none := J.free
  have nCf : ce.locals ∉ frs X.stack := fun hb => by
    have z := Heap.lt_size (I3.stack.mem hb).2.choose_spec.1
    rw [hcl] at z
    exact absurd z (Nat.lt_irrefl _)
  obtain ⟨oC, esC, epC, hoC, hdC, rC⟩ := id hn
  have BC : B.get? ce.locals = some oC := ub.keep _ _ hoC nC nCf
  have nC2 : H2 ce.locals = none := ub.free _ _ hoC nC
  obtain ⟨B1, b1, b2⟩ := restrict B fun b => decide (b ≠ ce.locals)
  have kB : ∀ b o, B1.get? b = some o → B.get? b = some o := fun b o e => by
    by_cases hb : b = ce.locals
    · rw [hb, b2 _ (by simp)] at e; cases e
    · rw [← b1 b (by simp [hb])]; exact e
  have toB : ∀ b o, b ≠ ce.locals → B.get? b = some o → B1.get? b = some o := fun b o hb e => by rw [b1 b (by simp [hb])]; exact e
  have B1C : B1.get? ce.locals = none := b2 _ (by simp)
  have fl1 := flying_less kB fl
  rw [hs] at fl1
  have hfr : X.A.frames = some (X.env :: X.outer) := by rw [I3.ok.frames, hs]
  show wpAny (model X.prog X.w) X.A (noteFrame (.ref a) ce) _ _ _
  rw [noteFrame_env _ hcf]
  refine looks_onZ Zc.steady hfr hf fl1 fun h1 hh1 up1 => ?_
  have nsS' : s'.heap.get? ce.locals = some oC := fl.1 _ _ BC
  have hn' : s'.heap.Ns ce.locals m := ⟨oC, esC, epC, nsS', hdC, rC⟩
  have hn1 : h1.Ns ce.locals m := up1.ns hn'
  refine ⟨m, hn1, fun h2 m2 hn2 sb => ?_⟩
  obtain ⟨k1, k2, k3, k4⟩ := hh1
  have hh2 : HeldZ B1 (X.env :: X.outer) a (Zc cls d) X.env.locals h2 :=
    ⟨fun b o e => (sb.2 b fun z => by rw [z, B1C] at e; cases e).trans (k1 b o e), k2, Heap.FunFrames.sameBut sb hn2 k3, traced_but k4 hn1 sb⟩
  obtain ⟨oe, vs, T, oT, ts, he, hz, hd, hv1, hr⟩ := id hh2.2.2.2
  unfold PySem.passOn
  refine wpAny_bind (wpAny_field he hd hv1 ?_)
  rw [if_neg (show ¬ ((Value.ref T == Value.none) = true) from by simp)]
  rw [hcf, hf]
  have fin : wpAny (model X.prog X.w) X.A (setFlight (.ref a) (some X.env.locals)) (fun _ s4 => wpAny (model X.prog X.w) X.A (throw (.ref a) : Sem Value) (fun _ _ => False) X.xe s4) X.xe { s' with heap := h2 } := by
    refine setFlight_onZ hh2 fun h4 hh4 up4 => wpAny_throw (tk _ _ ?_)
    obtain ⟨G, g1, g2⟩ := restrict h4 fun b => (B1.get? b).isSome || decide (b ∈ frs X.stack)
    have st4 : B1.StaysIn h4 := hh4.1
    have gB : ∀ b o, B1.get? b = some o → G.get? b = some o := fun b o e => by
      rw [g1 b (by simp [e])]
      exact st4 b o e
    have gF : ∀ b, b ∈ frs X.stack → G.get? b = h4.get? b := fun b hb => g1 b (by simp [hb])
    have og : ∀ b o, G.get? b = some o → h4.get? b = some o ∧ ((B1.get? b).isSome = true ∨ b ∈ frs X.stack) := fun b o e => by
      cases q : ((B1.get? b).isSome || decide (b ∈ frs X.stack)) with
      | false => rw [g2 b q] at e; cases e
      | true =>
        rw [g1 b q] at e
        exact ⟨e, by simpa [Bool.or_eq_true] using q⟩
    have up2 : ∀ b o, b ≠ ce.locals → h1.get? b = some o → h2.get? b = some o := fun b o hb e => (sb.2 b hb).trans e
    -- a frame's object through the whole way
    have slots : ∀ b o, b ∈ frs X.stack → s3.heap.get? b = some o → ∃ sl, G.get? b = some { o with slots := sl } := fun b o hb e => by
      obtain ⟨_, o', e', hnf⟩ := I3.stack.mem hb
      rw [e] at e'; cases e'
      have ne : b ≠ ce.locals := fun z => nCf (z ▸ hb)
      obtain ⟨sl1, q1⟩ := J.base.slot b o e (I3.stkFree b hb) hb fun z => by
        rcases List.mem_cons.mp (I3.stkSub b hb) with y | y
        · exact (f3 b z).2.1 y
        · exact (f3 b z).2.2.1 y
      obtain ⟨sl2, q2⟩ := ub.slot b _ q1 hb
      obtain ⟨sl3, q3⟩ := up1 b _ q2 hnf
      obtain ⟨sl4, q4⟩ := up4 b _ (up2 b _ ne q3) hnf
      exact ⟨sl4, by rw [gF b hb]; exact q4⟩
    have neC : ∀ b o, s3.heap.get? b = some o → b ≠ ce.locals := fun b o e => by rw [hcl]; exact Nat.ne_of_lt (Heap.lt_size e)
    have hokG : HOk X.prog X.w H2 G := fun b o e => (hok b o e).stay (fun c v hc q => gB c v (toB c v (fun z => by
      rcases hc with y | y
      · rw [← y, z, nC2] at e; cases e
      · rw [z, nC2] at y; cases y) q)) (fun _ q => q) fun _ _ q => q
    have os' : s'.os = s3.os := os.trans J.os
    refine ⟨a, B1, { s3 with heap := G, gens := s'.gens, drawn := s'.drawn, toks := s'.toks }, pins, σ, H2, cls, d, rfl, ?_, fun b o e hb => ?_, Heap.UpToSlots.of_keeps fun b o e => (og b o e).1, .inr (.inr (by rw [hs]; exact hh4)), na, os', ag, hE⟩
    · refine I3.call (ch := fp) ⟨fun b o e n hb hx => ?_, fun b o e n hb hx => slots b o hb e, fun b o e n hx => ?_, fun b o e hx => ?_, fun b xs e => ub.tups b xs (J.base.tups b xs e), fun b o xs e => ub.frzs b o xs (J.base.frzs b o xs e), fun b ps e => ?_⟩ hokG ag
        fun b hb => ⟨(f3 b hb).2.2.2.1, (f3 b hb).2.1, (f3 b hb).2.2.2.2.1, (f3 b hb).2.2.2.2.2⟩
      · exact gB b o (toB b o (neC b o e) (ub.keep b o (J.base.keep b o e n hb hx) (J.base.free b o e n hx) hb))
      · obtain ⟨o', e1⟩ := J.base.there b o e hx
        exact ub.free b o' e1 (J.base.free b o e n hx)
      · by_cases hb : b ∈ frs X.stack
        · obtain ⟨sl, q⟩ := slots b o hb e
          exact ⟨_, q⟩
        · obtain ⟨o', e1⟩ := J.base.there b o e hx
          obtain ⟨o2, e2⟩ := ub.there b o' e1 hb
          exact ⟨o2, gB b o2 (toB b o2 (neC b o e) e2)⟩
      · obtain ⟨m1, e1⟩ := J.base.tbls b ps e
        obtain ⟨m2, e2⟩ := ub.tbls b _ e1
        exact ⟨m1 ++ m2, by rw [e2, Array.append_assoc]⟩
    · obtain ⟨e', h⟩ := og b o e
      rcases h with h | h
      · obtain ⟨o', q⟩ := Option.isSome_iff_exists.mp h
        have z := st4 b o' q
        rw [e'] at z; cases z
        exact q
      · exact absurd h hb
  first
    | exact wpAny_bind (wpAny_pure (wpAny_bind fin))
    | exact wpAny_bind fin
end
section
variable {X : Cx}
/-- the new list of a comprehension, laid behind its iterator -/
theorem lay_list {pins : List (Addr × Obj)} {s : Shared} {σ : St} {H : Hp} {tg : Expr} {J : It} {fp : List Addr} {it : Addr} {tn : Nat → Heap → Prop} {P : Program} {w : World} {K : PySem.W.Frag} (I : Inv X pins σ H s) (T : Turn P w K tg J fp it tn) (st : tn 0 s.heap) (f : ∀ b ∈ fp, FpOk X pins H b) :
    H s.heap.objs.size = none ∧ Inv X pins σ (upd H s.heap.objs.size (.lst [])) { s with heap := s.heap.push { cls := .type "list", data := .seq ([] : List Value).toArray } } ∧ tn 0 (s.heap.push { cls := .type "list", data := .seq ([] : List Value).toArray }) ∧
      ∀ b ∈ fp, FpOk X pins (upd H s.heap.objs.size (.lst [])) b ∧ b < (s.heap.push { cls := .type "list", data := .seq ([] : List Value).toArray }).objs.size := by
  refine ⟨I.hok.fresh (Nat.le_refl _), I.laid (t' := s.toks) (fun _ _ => Heap.get?_push_of_some _) (Nat.le_refl _) ⟨Nat.zero_le _, [], 0, .nil, Heap.get?_push_size _ rfl⟩, T.keep _ _ _ st fun _ _ _ => Heap.get?_push_of_some _, fun b hb => ?_⟩
  have lt : b < s.heap.objs.size := let ⟨_, e, _⟩ := T.obj _ _ st b hb; Heap.lt_size e
  exact ⟨⟨(upd_ne (Nat.ne_of_lt lt)).trans (f b hb).1, (f b hb).2⟩, Nat.lt_of_lt_of_eq (Nat.lt_succ_of_lt lt) (Heap.size_push ..).symm⟩
/-- the block of a comprehension whose element may raise -/
abbrev blkX (X : Cx) (s : Shared) (H : Hp) (scope : Scope) (C : Addr) (cl : List (Str × Addr)) (fp : List Addr) (xe : Value → Shared → Prop) : Cx := (X.blk s H scope (compEnvC scope cl C X.env) fp).wish xe
/-- the common part of both forms: an element that may let out what E tells -/
theorem lcX_core {E : XK} {elt tg iter : Expr} {scope : Scope} {own : List (Str × Nat)} {pos pos' : Pos} {wi : TI} {g : TG} {te : TE} {pins : List (Addr × Obj)} {s : Shared} {σ : St} {H : Hp} {Q : VK} {use : Option (Value → Sem Unit)} {Qf : Value → Shared → Prop}
    (hst : X.stack = X.env :: X.outer) (hf : X.env.frame = some X.env.locals) (tk : Takes X (fun cls d _ H => E cls d H))
    (hc : X.calm = true) (hN : X.N.Nodup) (I : Inv X pins σ H s) (hi : PI X tg iter wi) (ok : BlkOk X.N X.env.scope scope own)
    (hg : ∀ (s : Shared) (H : Hp) (C : Addr) (cl : List (Str × Addr)) (fp : List Addr) (xe : Value → Shared → Prop), PG (blkX X s H scope C cl fp xe) tg g)
    (he : ∀ (s : Shared) (H : Hp) (C : Addr) (cl : List (Str × Addr)) (fp : List Addr) (xe : Value → Shared → Prop), Passes (L2.CX X.prog X.w) (blkX X s H scope C cl fp xe) E → PE (blkX X s H scope C cl fp xe) elt te)
    (hs : ∀ x, foldedSetIterable iter X.env x = pure x) (h : tLc wi g tYes te (own.map (·.2)) σ H Q)
    (hRR : ∀ D ce s' m H', Inv X pins σ H' s' → Q (.ref D) H' → s'.heap.Ns ce.locals m → FpOk X pins H' ce.locals → compEnds (model X.prog X.w) X.A X.xe use Qf (.ref D) ce (.ok .next) s') :
    wpAny (model X.prog X.w) X.A (comprehension (.ListComp elt [⟨tg, iter, [], 0⟩] scope pos) scope X.env pos' (newList []) false (eval iter X.env) use) Qf X.xe s := by
  have hfree : ∀ y ∈ scope.names, y.2 = .free → ∃ c, X.env.cells.lookup y.1 = some c := fun y hy e => by
    rcases ok.free y hy e with k | k
    · exact I.ok.has _ (.inl k)
    · exact I.ok.has _ (.inr k)
  refine comprehension_at (use := use) rfl hs (closure_ok hfree) ok.kind (fun y hy e => by rw [ok.uniq y hy, e])
    (thn (hi.run pins s σ H _ I h) fun xv s1 hx => thn hx fun itv s2 h2 => ?_)
  obtain ⟨it, fp, tn, J, H2, rfl, I2, T, st2, f2, q⟩ := h2
  obtain ⟨hDn, I3, st3, f3⟩ := lay_list I2 T st2 f2
  obtain ⟨W, ⟨m0, w0⟩, turn⟩ := q _ hDn
  refine wpAny_newObj_type (newEnv_comp ?_) (by show 0 ≤ sizeLine; decide)
  generalize s2.heap.objs.size = D at I3 f3 w0 turn ⊢
  generalize hs3 : ({ s2 with heap := s2.heap.push { cls := .type "list", data := .seq ([] : List Value).toArray } } : Shared) = s3 at I3 ⊢
  have h3 : s2.heap.push { cls := .type "list", data := .seq ([] : List Value).toArray } = s3.heap := by rw [← hs3]
  rw [h3] at st3 f3
  have I4 := block_start I3 ok hN f3
  show codeAny _ _ (.compStart (.ListComp elt [⟨tg, iter, [], 0⟩] scope pos) 0 (.ref it) (.ref D) (compEnvC scope (cellsFrom (s3.heap.objs.size + 1) scope.names (cloFrom X.env.cells scope.names [])) s3.heap.objs.size X.env))
    (compEnds (model X.prog X.w) X.A X.xe use Qf (.ref D) (compEnvC scope (cellsFrom (s3.heap.objs.size + 1) scope.names (cloFrom X.env.cells scope.names [])) s3.heap.objs.size X.env)) { s3 with heap := pushCells (s3.heap.push { cls := .type "dict", data := .dict #[] }) scope.names }
  have nfp : ∀ b ∈ fp, (upd H2 D (.lst [])) b = none := fun b hb => (f3 b hb).1.1
  have hgx := hg s3 (upd H2 D (.lst [])) s3.heap.objs.size (cellsFrom (s3.heap.objs.size + 1) scope.names (cloFrom X.env.cells scope.names [])) fp
  have hex := he s3 (upd H2 D (.lst [])) s3.heap.objs.size (cellsFrom (s3.heap.objs.size + 1) scope.names (cloFrom X.env.cells scope.names [])) fp
  have cF : (compEnvC scope (cellsFrom (s3.heap.objs.size + 1) scope.names (cloFrom X.env.cells scope.names [])) s3.heap.objs.size X.env).frame = X.env.frame := rfl
  unfold blkX at hgx hex
  generalize hce : compEnvC scope (cellsFrom (s3.heap.objs.size + 1) scope.names (cloFrom X.env.cells scope.names [])) s3.heap.objs.size X.env = ce at I4 hgx hex cF ⊢
  have cL : ce.locals = s3.heap.objs.size := by subst hce; rfl
  generalize hH3 : upd H2 D (.lst []) = H3 at I3 I4 hgx hex w0 nfp f3
  generalize hs4 : ({ s3 with heap := pushCells (s3.heap.push { cls := .type "dict", data := .dict #[] }) scope.names } : Shared) = s4 at I4 ⊢
  have pg := hgx (blkWish X ce)
  have pe := hex (blkWish X ce) (fun pins' σ' H' s5 u s' J c => block_raise hst hf tk I3 (fun b hb => (f3 b hb).1) cF cL J c)
  have J4 : Inv ((X.blk s3 H3 scope ce fp).wish (blkWish X ce)) [] (wipe σ (own.map (·.2))) H3 s4 := I4.wish _
  have st4 : tn 0 s4.heap := T.keep _ _ _ st3 fun b _ o e => by rw [← hs4]; exact pushCells_keeps _ _ _ _ (Heap.get?_push_of_some _ e)
  generalize hY : (X.blk s3 H3 scope ce fp).wish (blkWish X ce) = Y at pg pe J4
  have Yp : Y.prog = X.prog := by rw [← hY]
  have Yw : Y.w = X.w := by rw [← hY]
  have YK : Y.K = X.K := by rw [← hY]
  have YA : Y.A = X.A := by rw [← hY]
  have Yc : Y.calm = true := by rw [← hY]; exact hc
  have Ye : Y.env = ce := by rw [← hY]
  have Yx : Y.xe = blkWish X ce := by rw [← hY]
  subst hY
  have stat : ∀ {σ' : St} {H' : Hp} {s' : Shared}, Inv ((X.blk s3 H3 scope ce fp).wish (blkWish X ce)) [] σ' H' s' → (∀ b ∈ fp, H' b = none) → ∀ b ∈ fp, FpOk ((X.blk s3 H3 scope ce fp).wish (blkWish X ce)) [] H' b := fun {σ' H' s'} I' hn b hb =>
    ⟨hn b hb, (I'.ok.exf b hb).1, I'.ok.exfs b hb, .inl hb, fun x c e => (I'.ok.exf b hb).2 x c e, fun p hp => absurd (show p ∈ ([] : List (Addr × Obj)) ++ [] from hp) (by simp)⟩
  have loop : codeAny (model X.prog X.w) X.A (.compLoop (.ListComp elt [⟨tg, iter, [], 0⟩] scope pos) 0 (.ref it) (.ref D) ce) (compEnds (model X.prog X.w) X.A X.xe use Qf (.ref D) ce) s4 := by
    refine compLoop_any (fun n s' => ∃ i H', Inv ((X.blk s3 H3 scope ce fp).wish (blkWish X ce)) [] (wipe σ (own.map (·.2))) H' s' ∧ tn i s'.heap ∧ (∀ b ∈ fp, H' b = none) ∧ W i n H') ?_ m0 ⟨0, H3, J4, st4, nfp, w0⟩
    rintro n s5 ⟨i, H5, I5, st5, n5, w5⟩
    rcases turn i n H5 w5 with ⟨stop, qq⟩ | ⟨go, Nx, hNx, step⟩
    · have td := T.done ((X.blk s3 H3 scope ce fp).wish (blkWish X ce)) rfl rfl rfl hc i [] s5 _ H5 (fun _ _ => False) I5 (stat I5 n5) st5 stop
      refine thnF td fun r s6 ⟨hr, I6⟩ => ?_
      subst hr
      have I7 : Inv X pins σ H5 s6 := I3.call' (ch := fp) I6.os I6.base I6.hok I6.bare fun b hb => ⟨(f3 b hb).1.2.2.2.1, (f3 b hb).1.2.1, (f3 b hb).1.2.2.2.2.1, (f3 b hb).1.2.2.2.2.2⟩
      have nC : H5 s3.heap.objs.size = none := by
        have z : H5 ce.locals = none := I6.free
        rw [cL] at z
        exact z
      obtain ⟨m, hn, _⟩ := I6.loc
      have hn : s6.heap.Ns ce.locals m := hn
      have f := I3.fpOk (Nat.le_refl _) nC
      rw [← cL] at f
      exact hRR D ce s6 m H5 I7 qq hn f
    · have ti := T.item ((X.blk s3 H3 scope ce fp).wish (blkWish X ce)) rfl rfl rfl hc i [] s5 _ H5 (fun _ _ => False) I5 (stat I5 n5) st5 go
      refine thnF ti fun r s6 ⟨u, hr, h6⟩ => ?_
      subst hr
      refine thnF h6 fun _ s7 ⟨x, H7, I7, r7, y7, st7, n7⟩ => ?_
      have I7' := I7.pinned (stat I7 n7) (T.obj _ _ st7)
      refine thn (pg.run _ s7 _ H7 x u _ I7' r7 (step x H7 y7)) fun _ s8 ⟨σ8, H8, I8, hw8, q8⟩ => ?_
      refine wpAny_tests_nil ?_
      rw [if_pos rfl]
      have q8' : (if true = true then te σ8 H8 fun y H4 => ∃ acc, H4 D = some (.lst acc) ∧ acc.length < sizeLine ∧ Nx (upd H4 D (.lst (acc ++ [y]))) else Nx H8) := q8
      rw [if_pos rfl] at q8'
      refine thn (pe.run _ s8 σ8 H8 _ I8 q8') fun z s10 ⟨yv, H10, I10, r10, acc, hD10, hz10, nx⟩ => ?_
      refine app_ok (X := (X.blk s3 H3 scope ce fp).wish (blkWish X ce)) I10 hD10 hz10 r10 fun s11 I11 => ?_
      obtain ⟨m', hm, w'⟩ := hNx _ nx
      have pin' : ∀ b ∈ fp, ∀ o, s7.heap.get? b = some o → s11.heap.get? b = some o ∧ (upd H10 D (.lst (acc ++ [yv]))) b = none := fun b hb o e =>
        let z := I11.pin (b, o) (List.mem_append_right _ (List.mem_append_right _ (mem_pinsAt hb e)))
        ⟨z.1, z.2.1⟩
      have hl : (wipe σ (own.map (·.2))).length = σ8.length := by rw [← hw8, wipe_length]
      refine ⟨m', hm, i + 1, _, (I11.unpinned (pins := [])).weak hl (fun j v e => ?_), T.keep _ _ _ st7 fun b hb o e => (pin' b hb o e).1, fun b hb => ?_, w'⟩
      · rw [← hw8] at e
        exact (wipe_some e).1
      · obtain ⟨o, e, _⟩ := T.obj _ _ st7 b hb
        exact (pin' b hb o e).2
  exact codeAny_compStart_list loop (T.self X.A 0 _ _ _ st4 loop)
/-- [elt for target in iter], as a value -/
theorem pe_lcX {E : XK} {elt tg iter : Expr} {scope : Scope} {own : List (Str × Nat)} {pos : Pos} {wi : TI} {g : TG} {te : TE} (hst : X.stack = X.env :: X.outer) (hf : X.env.frame = some X.env.locals) (tk : Takes X (fun cls d _ H => E cls d H))
    (hc : X.calm = true) (hN : X.N.Nodup) (hi : PI X tg iter wi) (ok : BlkOk X.N X.env.scope scope own)
    (hg : ∀ (s : Shared) (H : Hp) (C : Addr) (cl : List (Str × Addr)) (fp : List Addr) (xe : Value → Shared → Prop), PG (blkX X s H scope C cl fp xe) tg g)
    (he : ∀ (s : Shared) (H : Hp) (C : Addr) (cl : List (Str × Addr)) (fp : List Addr) (xe : Value → Shared → Prop), Passes (L2.CX X.prog X.w) (blkX X s H scope C cl fp xe) E → PE (blkX X s H scope C cl fp xe) elt te)
    (hs : ∀ x, foldedSetIterable iter X.env x = pure x := by intro _; rfl) : PE X (.ListComp elt [⟨tg, iter, [], 0⟩] scope pos) (tLc wi g tYes te (own.map (·.2))) := by
  refine ⟨fun pins s σ H Q I h => ?_⟩
  rw [eval_ListComp]
  refine lcX_core (use := none) hst hf tk hc hN I hi ok hg he hs h fun D ce s' m H' I' q hn f => ⟨m, hn, fun h'' sb => ?_⟩
  obtain ⟨f0, f1, f2, f3, f4, f5⟩ := f
  exact ⟨.ref D, H', I'.turned (t' := s'.toks) (fun b o hb e => (sb.2 b hb).trans e) f0 f1 f3 f4 f5, rfl, q⟩
/-- name = [elt for target in iter], on one row, the name a plain local -/
theorem ps_setLcX {E : XK} {i : Nat} {y : Str} {py spos : Pos} {elt tg iter : Expr} {scope : Scope} {own : List (Str × Nat)} {pos : Pos} {wi : TI} {g : TG} {te : TE} (hst : X.stack = X.env :: X.outer) (hf : X.env.frame = some X.env.locals) (tk : Takes X (fun cls d _ H => E cls d H))
    (hc : X.calm = true) (hN : X.N.Nodup) (hy : X.N[i]? = some y) (hyl : X.env.scope.names.lookup y = some .local)
    (hsw : swapsWith (.ListComp elt [⟨tg, iter, [], 0⟩] scope pos) (some (.Name y py)) spos.line X.env = pure true) (hi : PI X tg iter wi) (ok : BlkOk X.N X.env.scope scope own)
    (hg : ∀ (s : Shared) (H : Hp) (C : Addr) (cl : List (Str × Addr)) (fp : List Addr) (xe : Value → Shared → Prop), PG (blkX X s H scope C cl fp xe) tg g)
    (he : ∀ (s : Shared) (H : Hp) (C : Addr) (cl : List (Str × Addr)) (fp : List Addr) (xe : Value → Shared → Prop), Passes (L2.CX X.prog X.w) (blkX X s H scope C cl fp xe) E → PE (blkX X s H scope C cl fp xe) elt te)
    (hs : ∀ x, foldedSetIterable iter X.env x = pure x := by intro _; rfl) : PS X (.Assign [.Name y py] (.ListComp elt [⟨tg, iter, [], 0⟩] scope pos) spos) (tAsg (tLc wi g tYes te (own.map (·.2))) (gName i)) := by
  refine ⟨fun pins s σ H D I h => ?_⟩
  rw [exec_Assign_Name_used _ _ _ _ hsw]
  refine wpAny_bind (wpAny_standAt (wpAny_bind ?_))
  have h' : tLc wi g tYes te (own.map (·.2)) σ H (fun x H1 => gName i x σ H1 D.nx) := h
  have core := lcX_core (pos := pos) (use := some (assign (.Name y py) X.env)) (Qf := fun _ s' => SP X pins D .next s') (pos' := firstIterPos [⟨tg, iter, [], 0⟩] pos) hst hf tk hc hN I hi ok hg he hs h' (by
    intro L ce s' m H' I' q hn f
    show wpAny _ _ (assign (.Name y py) X.env (.ref L)) _ _ _
    refine wpAny_assign_Name (store_ok2 (v := V.ref L) I' hN hy (.inl hyl) rfl (fun s2 I2 ⟨a, sb, ha⟩ => ?_) (.inr hyl))
    obtain ⟨f0, f1, f2, f3, f4, f5⟩ := f
    have haC : ce.locals ≠ a := by
      rcases ha with z | z
      · rw [z]; exact f1
      · exact fun e => f4 y a z e.symm
    exact ⟨m, hn.sameBut sb haC, fun h3 sb3 => ⟨_, H', I2.turned (t' := s2.toks) (fun b o hb e => (sb3.2 b hb).trans e) f0 f1 f3 f4 f5, q⟩⟩)
  show wpAny _ X.A (comprehension (.ListComp elt [⟨tg, iter, [], 0⟩] scope pos) scope X.env (firstIterPos [⟨tg, iter, [], 0⟩] pos) (newList []) false (eval iter X.env) (some (assign (.Name y py) X.env)) >>= fun _ => pure ()) _ _ s
  exact wpAny_bind (wpAny_mono core (fun _ s' hq => wpAny_pure (wpAny_pure hq)) fun _ _ z => z)
end
end
section
/-! ### C(k = v) of an own exception class over ValueError -/
namespace KwX
open PySem.HandSPX
theorem ve_chk (c : Value) (rest : List Value) (kw : List (Str × Value)) : Bind.checkArgs "ValueError.__new__" ⟨.any, "ValueError", "ValueError", .cls, [⟨"args", .varPos, false⟩, ⟨"kwargs", .varKw, false⟩]⟩ ⟨c :: rest, kw⟩ = pure () := by
  first
    | rfl
    | kernel_rfl
section
variable {M : Model} {A : Around} {E : Value → Shared → Prop} {h : Heap} {g : Array GenState} {d : Drawn} {t : Nat} {os : OsState}
variable {nm q : Str} {C N : Addr} {bs bm : List Value} {hdct : Bool} {sn : List Str} {sub : List Value} {ab : Bool} {col : Option Bool} {dd : Option Addr} {k0 k1 k2 k3 k5 : Option Value}
theorem check_new_kw (hT : ∀ X : String, bm.contains (.type X) = veTail.contains (.type X)) {rest : List Value} {kw : List (Str × Value)} {Q : Unit → Shared → Prop}
    (hC : h.get? C = some (excClassObj nm q C N bs bm hdct sn sub ab col dd k0 k1 k2 k3 k5 "ValueError.__new__")) (hq : Q () ⟨h, g, d, t, os⟩) : wpAny M A (checkBuiltinCall "ValueError.__new__" ⟨.ref C :: rest, kw⟩) Q E ⟨h, g, d, t, os⟩ := by
  have F := F.excBase_ValueError
  have hcont : (Value.ref C :: bm).contains (.type "ValueError") = true := by rw [List.contains_cons, hT]; rfl
  simp only [checkBuiltinCall, F.newKind, F.newSplit, F.newRow, ve_chk]
  repeat (first | refine wpAny_loadPart_at hC ?_ | (refine wpAny_isSubtype_exc hC ?_; rw [hcont]) | refine wpAny_staticBase_exc hC ?_ | refine wpAny_madeBy_exc hC ?_ | simp only [bne_self_eq_false, Bool.false_eq_true, if_false] | wp_step)
  all_goals first | exact hq | skip
end
section
variable {prog : Program} {w : World} {A : Around} {E : Value → Shared → Prop} {R : Result → Shared → Prop} {h : Heap} {g : Array GenState} {d : Drawn} {t : Nat} {os : OsState}
variable {nm q : Str} {C N : Addr} {bs bm : List Value} {hdct : Bool} {sn : List Str} {sub : List Value} {ab : Bool} {col : Option Bool} {dd : Option Addr} {k0 k1 k2 k3 k5 : Option Value}
theorem new_kw (hT : ∀ X : String, bm.contains (.type X) = veTail.contains (.type X)) {rest : List Value} {kw : List (Str × Value)}
    (hC : h.get? C = some (excClassObj nm q C N bs bm hdct sn sub ab col dd k0 k1 k2 k3 k5 "ValueError.__new__"))
    (hq : R (.ok (.ret (.ref (h.objs.size + 1)))) ⟨(h.push { cls := .type "tuple", data := .seq rest.toArray }).push
      { cls := .ref C, data := .fields #[.ref h.objs.size, .none, .none, .none, .bool false, .none] }, g, d, t, os⟩) (hrest : rest.length ≤ sizeLine) :
    codeAny (model prog w) A (.builtin "ValueError.__new__" ⟨.ref C :: rest, kw⟩) R ⟨h, g, d, t, os⟩ := by
  have F := F.excBase_ValueError
  have hends := F.ends
  have hcB : (Value.ref C :: bm).contains (.type "ValueError") = true := by rw [List.contains_cons, hT]; rfl
  have hcA : (Value.ref C :: bm).contains (.type "AttributeError") = false := by rw [List.contains_cons, hT]; rfl
  have hcN : (Value.ref C :: bm).contains (.type "NameError") = false := by rw [List.contains_cons, hT]; rfl
  refine codeAny_builtinAt F.entry ?_
  unfold Builtin.«BaseException.__new__»
  refine wpAt_bind ?_
  show wpAt _ _ _ (stack >>= _) _ _ _
  refine wpAt_bind (wpAt_stack fun p below => wpAt_of_wpAny ?_)
  wp_walk
  refine wpAt_of_wpAny ?_
  rw [F.owner]
  repeat (first | with_reducible refine wpAny_madeHere_exc F.canon hC ?_ | with_reducible refine wpAny_loadPart_at hC ?_ | (with_reducible refine wpAny_isSubtype_exc hC ?_; first | rw [hcB] | rw [hcA] | rw [hcN]) | wp_step)
  show R _ _
  rw [Heap.size_push]
  exact hq
theorem check_type_call_kw {M : Model} {rest : List Value} {kw : List (Str × Value)} {Q : Unit → Shared → Prop} (hC : h.get? C = some (excClassObj nm q C N bs bm hdct sn sub ab col dd k0 k1 k2 k3 k5 "ValueError.__new__"))
    (hq : Q () ⟨h, g, d, t, os⟩) : wpAny M A (checkBuiltinCall "type.__call__" ⟨.ref C :: rest, kw⟩) Q E ⟨h, g, d, t, os⟩ := by
  have f3 := tc_sub
  have hT : (⟨h, g, d, t, os⟩ : Shared).TypeIs (.ref C) "type" := ⟨_, hC, rfl⟩
  simp only [checkBuiltinCall, tc_kind, tc_split]
  repeat (any_goals (first | assumption | with_reducible refine wpAny_loadPart_at hC ?_ | with_reducible refine wpAny_onRaise ?_ | with_reducible refine wpAny_map ?_ | wp_step))
/-- the exception as it is laid behind its arguments -/
theorem born_exc (h : Heap) (C : Addr) (rest : List Value) : (∀ b o, h.get? b = some o → ((h.push (W.kdv_tup rest)).push (excO C h.objs.size)).get? b = some o) ∧
    ((h.push (W.kdv_tup rest)).push (excO C h.objs.size)).get? (h.objs.size + 1) = some (excO C h.objs.size) :=
  ⟨fun _ _ e => Heap.get?_push_of_some _ (Heap.get?_push_of_some _ e), by heap_get⟩
theorem type_call_kw (hT : ∀ X : String, bm.contains (.type X) = veTail.contains (.type X)) {rest : List Value} {kw : List (Str × Value)} {fI : Addr} {Q : Fin → Shared → Prop}
    (hC : h.get? C = some (excClassObj nm q C N bs bm hdct sn sub ab col dd k0 k1 k2 k3 k5 "ValueError.__new__"))
    (hi : W.Looks (model prog w) h (typeLookup (.ref C) "__init__") (some (.ref fI))) (hb : ∀ self, W.Looks (model prog w) h (bindSpecial (.ref fI) self) (.ref fI, [self])) (hrest : rest.length ≤ sizeLine)
    (hq : codeAny (model prog w) A (.call (.ref fI) ⟨.ref (h.objs.size + 1) :: rest, kw⟩)
      (fun r s' => match r with | .ok (.ret v) => v = .none ∧ Q (.done (.ret (.ref (h.objs.size + 1)))) s' | .ok _ => False | .error e => E e s')
      ⟨(h.push (W.kdv_tup rest)).push (excO C h.objs.size), g, d, t, os⟩) :
    wpAny (model prog w) A (Builtin.«type.__call__» ⟨.ref C :: rest, kw⟩) Q E ⟨h, g, d, t, os⟩ := by
  obtain ⟨old, self⟩ := born_exc h C rest
  have cls := old _ _ hC
  have own : (Value.ref C :: bm).contains (.ref C) = true := by simp
  repeat (first | with_reducible refine wpAny_loadPart_at hC ?_ | with_reducible refine wpAny_madeBy_exc hC ?_ | wp_step)
  refine codeAny_call_builtin_code (Code.quiet_builtin _ F.excBase_ValueError.quiet) (check_new_kw hT hC (new_kw hT hC ?_ hrest))
  show wpAny _ _ _ _ _ _
  unfold isInstance
  repeat (first | with_reducible refine wpAny_loadPart_at self ?_ | (with_reducible refine wpAny_isSubtype_exc cls ?_; rw [own]) | wp_step)
  refine (show W.Looks (model prog w) _ (typeLookup (.ref C) "__init__") (some (.ref fI)) from hi.keeps old).at (wpAny_holding (wpAny_bind (((hb _).keeps old).at (wpAny_bind (wpAny_call (codeAny_mono hq ?_))))))
  rintro (e | (v | _ | _ | _)) s' z <;> first | exact z | exact z.elim | skip
  obtain ⟨rfl, z⟩ := z
  first
    | exact wpAny_pure (wpAny_pure z)
    | (wp_walk; exact z)
theorem call_kw (hT : ∀ X : String, bm.contains (.type X) = veTail.contains (.type X)) {rest : List Value} {kw : List (Str × Value)} {fI : Addr}
    (hC : h.get? C = some (excClassObj nm q C N bs bm hdct sn sub ab col dd k0 k1 k2 k3 k5 "ValueError.__new__"))
    (hi : W.Looks (model prog w) h (typeLookup (.ref C) "__init__") (some (.ref fI))) (hb : ∀ self, W.Looks (model prog w) h (bindSpecial (.ref fI) self) (.ref fI, [self])) (hrest : rest.length ≤ sizeLine)
    (hq : codeAny (model prog w) (A.under (.builtin "type.__call__" ⟨.ref C :: rest, kw⟩)) (.call (.ref fI) ⟨.ref (h.objs.size + 1) :: rest, kw⟩) (W.InitBack (h.objs.size + 1) R)
      ⟨(h.push (W.kdv_tup rest)).push (excO C h.objs.size), g, d, t, os⟩) :
    codeAny (model prog w) A (.call (.ref C) ⟨rest, kw⟩) R ⟨h, g, d, t, os⟩ := by
  have f1 := tc_lookup
  have f2 := tc_bind (.ref C)
  have hTy : (⟨h, g, d, t, os⟩ : Shared).TypeIs (.ref C) "type" := ⟨_, hC, rfl⟩
  refine codeAny_of_tree ?_
  show wpAny _ _ (callAny (.ref C) _) _ _ _
  repeat (any_goals (first | assumption | with_reducible refine wpAny_loadPart_at hC ?_ | wp_step))
  refine ⟨rfl, ?_⟩
  refine codeAny_call_builtin_at (Code.quiet_builtin _ (by decide +kernel)) entry_typeCall (check_type_call_kw hC (type_call_kw hT hC hi hb hrest ?_))
  refine codeAny_mono hq fun r s' z => ?_
  rcases r with e | (v | _ | _ | _) <;> exact z
end
/-! ### its __init__: super().__init__(text), then self.fld = fld -/
def kArgs (p1 p2 : Pos) (fld : Str) : Arguments := { posonlyargs := [], args := [{ arg := "self", annotation := none, pos := p1 }], vararg := none, kwonlyargs := [{ arg := fld, annotation := none, pos := p2 }], kw_defaults := [none], kwarg := none, defaults := [] }
def kBody (p0 p1 p2 p3 p4 p5 q1 q2 q3 q4 : Pos) (kk : Nat) (text fld : Str) : List Stmt :=
  [.Expr (.Call (.Attribute (.Call (.Name "super" p0) [] [] p1) "__init__" p2) [.Constant (.str text) kk p3] [] p4) p5, .Assign [.Attribute (.Name "self" q1) fld q2] (.Name fld q3) q4]
def KEv (p0 p1 p2 p3 p4 : Pos) (kk : Nat) (text : Str) : Prop := ∃ pl : Sem Bool, ∀ env : Env, eval (.Call (.Attribute (.Call (.Name "super" p0) [] [] p1) "__init__" p2) [.Constant (.str text) kk p3] [] p4) env = (do
  let ov ← attributeBase (.Call (.Name "super" p0) [] [] p1) "__init__" env (eval (.Call (.Name "super" p0) [] [] p1) env)
  standAt p2.atName
  let (f, first) ← holding [ov] (getMethod ov "__init__" pl)
  callWith p4 f first (backTo p4 (starEach [.Constant (.str text) kk p3] env)) [])
/-- the text of such an __init__ -/
structure KShape (st : Stmt) (text fld : Str) : Prop where
  body : ∃ p0 p1 p2 p3 p4 p5 q1 q2 q3 q4 kk, defBody st = kBody p0 p1 p2 p3 p4 p5 q1 q2 q3 q4 kk text fld ∧ KEv p0 p1 p2 p3 p4 kk text
  args : ∃ p1 p2, defArgs st = kArgs p1 p2 fld
  lself : (defScope st).names.lookup ("self" : Str) = some .local
  lfl : (defScope st).names.lookup fld = some .local
  lsuper : (defScope st).names.lookup ("super" : Str) = some .globalImplicit
  lcls : (defScope st).names.lookup ("__class__" : Str) = some .free
  nocell : ∀ x ∈ (defScope st).names, x.2 ≠ .cell
  co : (defScope st).isCoroutine = false
  gen : (defScope st).isGenerator = false
  kind : (defScope st).kind = .function
  dbg : (fld == ("__debug__" : Str)) = false
  ns : (fld == ("self" : Str)) = false
  bind : ∀ (qual : Str) (doc pm : Value) (an : Option Addr) (cdv ct : Value) (cc : Addr) (x v : Value), bindArgs (W.ksFn "__init__" qual (defArgs st) (defBody st) (defScope st) .none .none doc pm an cdv ct cc) ⟨[x], [(fld, v)]⟩ = pure [(("self" : Str), x), (fld, v)]
/-- what the written part says of the class at C (its name x), its __init__ at fI -/
structure KwT (P : Program) (K : W.Frag) (mg : Str → Option Value) (st : Stmt) (x qual text fld : Str) (C fI : Addr) : Prop where
  gC : mg x = some (.ref C)
  cls : ∃ nm q N bs bm sn sub ab col dd k0 k1 k2 k3 k5, K.lookup C = some (excClassObj nm q C N bs bm true sn sub ab col dd k0 k1 k2 k3 k5 "ValueError.__new__") ∧ refsVE bm = true
  sa : W.findIn K (.ref C) "__setattr__" = some (some (.builtin "object.__setattr__"))
  noN : W.findIn K (.ref C) fld = some none
  iC : W.findIn K (.ref C) "__init__" = some (some (.ref fI))
  tC : W.typeIn K (.ref fI) = some (.type "function")
  kC : W.keepIn K (.ref C) = true
  exC : W.subIn K (.ref C) (.type "BaseException") = some true
  tyC : W.typeIn K (.ref C) = some (.type "type")
  veC : W.subIn K (.ref C) (.type "ValueError") = some true
  opq : W.nsIn K cStatics "thirdparty.any" = some none
  sup : W.ks_superIn K C C "__init__" = some (some (.builtin "ValueError.__init__"))
  mro : W.mroIn K C (.ref C) = some true
  noS : mg "super" = none
  top : (P.main.scope.names.lookup ("super" : Str)).isSome = false
  fn : ∃ (oc : Value) (od : Option Addr) (doc pm : Value) (an : Option Addr) (cda : Addr) (ct : Value) (osl : Array (Option Value)) (cc : Addr) (ccl : Value) (cdd : Option Addr) (vs : Array Value) (ccs : Array (Option Value)) (file : Str) (tf : Tok) (cl : Value) (cld : Option Addr) (csl : Array (Option Value)),
    K.lookup fI = some ⟨oc, od, .func (W.ksFn "__init__" qual (defArgs st) (defBody st) (defScope st) .none .none doc pm an (.ref cda) ct cc), osl⟩ ∧ W.codeIn K (.ref cda) qual = true ∧
    K.lookup cda = some ⟨ccl, cdd, .fields vs, ccs⟩ ∧ vs[2]? = some (.str file tf) ∧ ((P.main.file : Str) == file) = true ∧ K.lookup cc = some ⟨cl, cld, .cell (some (.ref C)), csl⟩
/-- what __init__ leaves of a fresh exception at x -/
structure KEnd (h h' : Heap) (x C dx : Addr) (fld : Str) (v : Value) : Prop where
  keep : ∀ b o, b ≠ x → h.get? b = some o → h'.get? b = some o
  obj : ∃ t1 : Addr, h'.get? x = some { cls := .ref C, dict := some dx, data := .fields #[.ref t1, .none, .none, .none, .bool false, .none] }
  dbig : h.objs.size ≤ dx
  dne : dx ≠ x
  ns : h'.Ns1 dx (fun y => if y = fld then some v else none)
section
variable {prog : Program} {w : World} {A : Around} {E : Value → Shared → Prop} {R : Result → Shared → Prop} {K : W.Frag} {h : Heap} {g : Array GenState} {d : Drawn} {t : Nat} {os : OsState}
variable {nm q : Str} {C N : Addr} {bs bm : List Value} {hdct : Bool} {sn : List Str} {sub : List Value} {ab : Bool} {col : Option Bool} {dd : Option Addr} {k0 k1 k2 k3 k5 : Option Value}
theorem call_mw {u e t0 : Addr} {rest : List Value} {Q : Value → Shared → Prop}
    (hC : h.get? C = some (excClassObj nm q C N bs bm hdct sn sub ab col dd k0 k1 k2 k3 k5 "ValueError.__new__")) (he : h.get? e = some (excO C t0)) (hu : h.get? u = some (W.kxs_mw "ValueError.__init__" e)) (hrest : rest.length ≤ sizeLine)
    (hq : ∀ h' t1, (∀ b o, b ≠ e → h.get? b = some o → h'.get? b = some o) → h'.get? e = some (excO C t1) → Q .none ⟨h', g, d, t, os⟩) :
    wpAny (model prog w) A (call (.ref u) rest) Q E ⟨h, g, d, t, os⟩ := by
  refine wpAny_call (codeAny_of_tree ?_)
  show wpAny _ A.in1 (callAny (.ref u) ⟨rest, []⟩) _ _ _
  simp only [callAny]
  refine wpAny_bind (wpAny_load hu ?_)
  simp only [W.kxs_mw, show (Value.type "method-wrapper" == Value.type "method" || Value.type "method-wrapper" == Value.type "builtin_function_or_method" || Value.type "method-wrapper" == Value.type "method-wrapper") = true by decide, if_true]
  refine W.KFB.if_so (by decide) ?_
  refine wpAny_bind (W.check_bound_init F.excBase_ValueError.toExcCallFacts hC he rfl ?_)
  refine wpAny_bind (wpAny_pure (wpAny_pure ?_))
  refine ⟨Code.quiet_builtin _ (by decide +kernel), codeAny_builtin F.excBase_ValueError.initEntry ?_⟩
  rw [Around.under_plainId F.excBase_ValueError.init.plain _]
  wp_walk
  refine hq _ h.objs.size (fun b o hb ho => ?_) ?_
  · rw [Heap.get?_update_other _ _ (Ne.symm hb)]
    exact Heap.get?_push_of_some _ ho
  · rw [Heap.get?_update_self _ (Heap.get?_push_of_some _ he) rfl]
    rfl
end
section
variable {prog : Program} {w : World} {A : Around} {R : Result → Shared → Prop} {s : Shared} {K : W.Frag} {mg : Str → Option Value} {base : Heap} {C fI : Addr} {st : Stmt} {nx qual text fld : Str}
theorem init_kw (S : KShape st text fld) (T : KwT prog K mg st nx qual text fld C fI) (M : Mod K mg base) {x t0 : Addr} {v : Value} (hbk : ∀ b o, base.get? b = some o → s.heap.get? b = some o) (hx : s.heap.get? x = some (excO C t0)) (hnx : base.get? x = none) (hroom : A.depth < recursionLimit)
    (hq : ∀ h' tk dx, KEnd s.heap h' x C dx fld v → R (.ok (.ret .none)) { s with heap := h', toks := tk }) :
    codeAny (model prog w) A (.call (.ref fI) ⟨[.ref x], [(fld, v)]⟩) R s := by
  obtain ⟨oc, od, doc, pm, an, cda, ct, osl, cc, ccl, cdd, vs, ccs, file, tf, cl, cld, csl, ho, hcd, hco, hvs, hfile, hcell⟩ := T.fn
  obtain ⟨nm, q, N, bs, bm, sn, sub, ab, col, dd, k0, k1, k2, k3, k5, hC, hbm⟩ := T.cls
  obtain ⟨p0, p1, p2, p3, p4, p5, q1, q2, q3, q4, kk, eb, pl, ev⟩ := S.body
  obtain ⟨r1, r2, ea⟩ := S.args
  have hcl : W.clsIn K C = some { name := nm, bases := bs, mro := .ref C :: bm, ns := N, qualname := q, hasDict := true, slotNames := sn, subclasses := sub, abstract := ab, collection := col, hasDel := false } := by unfold W.clsIn; rw [hC] <;> rfl
  have X : K.In s.heap := M.kin.keeps hbk
  have hkx : ∀ b o, K.lookup b = some o → b ≠ x := fun b o e z => by
    have y := M.kin b o e
    rw [z, hnx] at y
    cases y
  have hxC : x ≠ C := Ne.symm (hkx _ _ hC)
  refine ks_codeAny_call_defAt (fd := W.ksFn "__init__" qual (defArgs st) (defBody st) (defScope st) .none .none doc pm an (.ref cda) ct cc) (body := defBody st) (binds := [("self", .ref x), (fld, v)]) hroom (X _ _ ho) rfl (M.nolimit.keeps hbk) (W.codeRec_of X hcd) rfl ?_ S.nocell ?_ (fun h₁ hns k => ?_) S.co S.gen S.kind
  · exact BindsTo.of_eq (S.bind qual doc pm an _ ct cc _ _)
  · intro y hy
    simp only [List.mem_cons, List.mem_nil_iff, or_false] at hy
    rcases hy with rfl | rfl
    · exact S.lself
    · exact S.lfl
  · rw [eb]
    have X₁ : K.In h₁ := X.keeps k
    have hx₁ := k _ _ hx
    obtain ⟨mb, hb1, hb2⟩ := M.blt
    have hkeep : ∀ b o, base.get? b = some o → h₁.get? b = some o := fun b o e => k b o (hbk b o e)
    have v1 : (([("self", .ref x), (fld, v)] : List (Str × Value)).reverse.lookup ("self" : Str)) = some (.ref x) := by
      have e : (("self" : Str) == fld) = false := by
        have := S.ns
        rw [beq_eq_false_iff_ne] at this ⊢
        exact fun z => this z.symm
      simp [List.lookup, e]
    have v2 : (([("self", .ref x), (fld, v)] : List (Str × Value)).reverse.lookup fld) = some v := by simp [List.lookup]
    refine ks_wpAt_execs_cons (ks_wpAt_Expr_any (ks_wpAt_MethodCall (pl := pl) ?_ (ev _)) (hi := by
      show ((defScope st).kind == .module && _) = false
      rw [S.kind]
      rfl))
    refine ks_wpAt_super_base (env := callEnv (W.ksFn "__init__" qual (defArgs st) (defBody st) (defScope st) .none .none doc pm an (.ref cda) ct cc) s.heap.objs.size fI) (ar := { arg := "self", annotation := none, pos := r1 }) S.lsuper S.lcls (by decide) rfl (X₁ _ _ ho) rfl (by rw [ea]; rfl) rfl (X₁ _ _ hco) rfl hvs hfile T.top ?_
    refine W.ks_loadName_global S.kind S.lsuper (Calls.loadGlobal_builtin (M.glob.keeps hkeep) T.noS (hb1.keeps hkeep) ((hb2 _ (by decide)).trans PyProof.Rows.Boot.«super») ⟨rfl, ?_⟩)
    refine wpAny_loadName_free S.kind S.lcls rfl ⟨_, X₁ _ _ hcell, rfl⟩ ?_
    refine wpAny_loadName_local S.kind S.lself hns v1 ?_
    have hCh := X₁ _ _ hC
    refine ks_wpAny_isType_cls hCh rfl ⟨rfl, ?_⟩
    refine ks_wpAny_call_super hCh rfl hx₁ rfl (fun c e => by cases e) (W.looks_mroIn X₁ T.mro) (fun h₂ e₂ k₂ => ?_)
    have X₂ : K.In h₂ := X₁.keeps k₂
    have hx₂ := k₂ _ _ hx₁
    have I₂ : W.InstAt h₂ x (excO C t0) C none := ⟨hx₂, rfl, rfl, trivial⟩
    have hI : W.Looks (model prog w) h₂ (isInstance (.ref x) (.type "ValueError")) true := I₂.type.andThen (W.looks_subIn X₂ T.veC)
    have hsu := T.sup
    unfold W.ks_superIn at hsu
    rw [hcl] at hsu
    refine W.kxs_getMethod W.kxs_ValueError e₂ (W.looks_opaque X₂ T.opq) (l₀ := .ref C :: bm) (fun A Q E s k q => wpAny_bind ((W.looks_clsIn X₂ hcl) A _ E s k (wpAny_pure q))) rfl X₂ hsu hI hxC (by decide) ?_
    refine W.kxs_callWith (i := "ValueError.__init__") (x := x) rfl (Calls.evalArgs_plain (Calls.spliced_cons (Calls.Constant_str (k := kk) (pos := p3) (Calls.spliced_nil ⟨Heap.get?_push_at rfl rfl, ?_⟩))))
    have k₃ : ∀ b o, h₂.get? b = some o → (h₂.push (W.kxs_mw "ValueError.__init__" x)).get? b = some o := fun b o e => Heap.get?_push_of_some _ e
    refine call_mw (k₃ _ _ (X₂ _ _ hC)) (k₃ _ _ hx₂) (Heap.get?_push_at rfl rfl) (by rw [sizeLine_eq]; show 1 ≤ 16777216; decide) (fun h₄ t₄ k₄ e₄ => ?_)
    have X₄ : K.In h₄ := fun b o e => k₄ b o (hkx b o e) (k₃ _ _ (X₂ _ _ e))
    have up : ∀ b o, b ≠ x → h₁.get? b = some o → h₄.get? b = some o := fun b o n e => k₄ b o n (k₃ _ _ (k₂ _ _ e))
    have hns₄ : h₄.Ns s.heap.objs.size (fun y => ([("self", .ref x), (fld, v)] : List (Str × Value)).reverse.lookup y) := by
      obtain ⟨oL, es, ep, hL, r⟩ := hns
      exact ⟨oL, es, ep, up _ _ (Nat.ne_of_gt (Heap.lt_size hx)) hL, r⟩
    refine wpAt_of_wpAny (wpAny_execs_cons (plainObj_wpAny_Assign_Attribute ?_))
    refine ldc (fd := W.ksFn "__init__" qual (defArgs st) (defBody st) (defScope st) .none .none doc pm an (.ref cda) ct cc) S.kind S.lfl hns₄ v2 ?_ S.dbg
    refine ldc (fd := W.ksFn "__init__" qual (defArgs st) (defBody st) (defScope st) .none .none doc pm an (.ref cda) ct cc) S.kind S.lself hns₄ v1 ?_
    refine W.set_plain X₄ (ox := excO C t₄) (od := none) ⟨e₄, rfl, rfl, trivial⟩ T.sa ?_
    refine exc_osa X₄ e₄ hcl (show refsVE (.ref C :: bm) = true from hbm) rfl T.noN (fun h₅ tk₅ dx k₅ dn dne hx₅ hn₅ => ?_)
    refine wpAny_execs_nil (hq h₅ _ dx ⟨fun b o n e => k₅ b o n (up b o n (k _ _ e)), ⟨t₄, hx₅⟩, ?_, dne, hn₅⟩)
    have l1 : s.heap.objs.size < h₄.objs.size := hns₄.lt
    exact Nat.le_of_lt (Nat.lt_of_lt_of_le l1 dn)
end
end KwX
section
open PySem.HandSPX KwX
theorem relO_one {fld : Str} {v : V} {v' : Value} (r : RelV v v') (f : Str) : RelO (List.lookup f [(fld, v)]) (if f = fld then some v' else none) := by
  by_cases hw : f = fld
  · subst hw
    rw [if_pos rfl]
    have q : List.lookup f [(f, v)] = some v := by simp [List.lookup]
    rw [q]
    exact r
  · rw [if_neg hw]
    have qw : (f == fld) = false := by simpa using hw
    have q2 : List.lookup f [(fld, v)] = none := by simp [List.lookup, qw]
    rw [q2]
    trivial
variable {X : Cx} {C fI : Addr} {st : Stmt} {nx qual text fld : Str}
/-- C(fld = e) -/
def tMkK (C : Addr) (fld : Str) (tk : TA) : St → Hp → XK → Prop := fun σ H Q => tk σ H fun vs H1 => ∃ v, vs = [v] ∧ ∀ d, H1 d = none → Q (.ref C) (some d) (upd H1 d (.xd [(fld, v)]))
theorem pmk_kw {kws : List Keyword} {tk : TA} {p pos : Pos} {k : Nat} (S : KShape st text fld) (T : KwT X.prog X.K X.mg st nx qual text fld C fI) (hr : Room k X.A) (hkw : PK X kws tk) (hg : Gl X nx := by rfl)
    (hall : (backToKw pos (keywordEach kws X.env)).all (·.1.isSome) = true := by rfl) (hks : (backToKw pos (keywordEach kws X.env)).filterMap (·.1) = [fld] := by rfl) (hdb : (nx == ("__debug__" : Str)) = false := by decide)
    (hpl : ((backTo pos (starEach [] X.env)).any (·.1) || (backToKw pos (keywordEach kws X.env)).any (·.1.isNone)) = false := by rfl) :
    PMk X (.Call (.Name nx p) [] kws pos) (tMkK C fld tk) := by
  intro pins s σ H Q I h
  obtain ⟨nm, q, N, bs, bm, sn, sub, ab, col, dd, k0, k1, k2, k3, k5, hC, hbm⟩ := T.cls
  refine wpAny_Call_Name_kw (ld_glob I hg T.gC ?_ hdb)
  refine PySem.W.callWith_KW0 (h₀ := X.base) I.ok.mod.kin T.kC hall ?_ hpl
  refine thn (hkw.run pos pins s σ H _ I h) fun us s1 hh => ?_
  obtain ⟨vs, H1, I1, r1, v, ev, q1⟩ := hh
  subst ev
  refine ⟨I1.kIn, ?_⟩
  rw [hks]
  cases r1 with
  | cons rv rn =>
    rename_i v' us'
    cases rn
    show wpAny _ _ (call (.ref C) [] [(fld, v')]) _ _ _
    have M := I1.ok.mod
    have hbk : ∀ b o, X.base.get? b = some o → s1.heap.get? b = some o := fun b o e => (I1.bs b o e).1
    have hX := I1.kIn
    obtain ⟨hp, g, dr, tk', os⟩ := s1
    have kk : ∀ b o, hp.get? b = some o → ((hp.push (PySem.W.kdv_tup [])).push (excO C hp.objs.size)).get? b = some o := fun b o e => Heap.get?_push_of_some _ (Heap.get?_push_of_some _ e)
    have hget : ((hp.push (PySem.W.kdv_tup [])).push (excO C hp.objs.size)).get? (hp.objs.size + 1) = some (excO C hp.objs.size) := by heap_get
    have hnx : X.base.get? (hp.objs.size + 1) = none := by
      cases e : X.base.get? (hp.objs.size + 1) with
      | none => rfl
      | some o =>
        have z : hp.get? (hp.objs.size + 1) = some o := hbk _ _ e
        exact absurd (Nat.lt_of_succ_lt (Heap.lt_size z)) (Nat.lt_irrefl _)
    refine wpAny_call (call_kw (fun Y => refsVE_contains Y bm hbm) (hX _ _ hC) (PySem.W.looks_findIn hX T.iC) (fun self => PySem.W.bind_fn hX self T.tC) (Nat.zero_le _) ?_)
    refine init_kw (s := ⟨(hp.push (PySem.W.kdv_tup [])).push (excO C hp.objs.size), g, dr, tk', os⟩) S T M (fun b o e => kk b o (hbk b o e)) hget hnx ?_ fun h' tk2 d M2 => ?_
    · have z : X.A.depth + 1 < recursionLimit := by
        have := hr.dp
        omega
      exact z
    · refine ⟨rfl, ?_⟩
      have hns := M2.ns
      obtain ⟨t1, hx⟩ := M2.obj
      have dbig : hp.objs.size ≤ d := by
        have z := M2.dbig
        have z2 : hp.objs.size + 1 + 1 ≤ d := by
          first
            | (simpa only [Heap.size_push] using z)
            | exact z
            | (rw [Heap.size_push, Heap.size_push] at z; exact z)
        omega
      have old0 : ∀ b o, hp.get? b = some o → h'.get? b = some o := fun b o e => M2.keep b o (Nat.ne_of_lt (Nat.lt_succ_of_lt (Heap.lt_size e))) (kk b o e)
      obtain ⟨G', g1, g2⟩ := restrict h' fun b => decide (b ≠ hp.objs.size + 1)
      have gk : ∀ b, b ≠ hp.objs.size + 1 → G'.get? b = h'.get? b := fun b hb => g1 b (decide_eq_true hb)
      have ge : G'.get? (hp.objs.size + 1) = none := g2 _ (by simp)
      have old : ∀ b o, hp.get? b = some o → G'.get? b = some o := fun b o q => (gk b (Nat.ne_of_lt (Nat.lt_succ_of_lt (Heap.lt_size q)))).trans (old0 b o q)
      have ob : ObjOk X.prog X.w (upd H1 d (.xd [(fld, v)])) G' d (.xd [(fld, v)]) :=
        ⟨_, hns.at (fun o q => (gk d M2.dne).trans q), fun f => relO_one rv f⟩
      have J : Inv X pins σ (upd H1 d (.xd [(fld, v)])) ⟨G', g, dr, tk2, os⟩ := I1.laid (t' := tk2) old dbig ob
      refine ⟨hp.objs.size + 1, _, _, ⟨G', g, dr, tk2, os⟩, _, .ref C, some d, rfl, J, fun b o q => ?_, ge, hx, ⟨rfl, rfl⟩, rfl, rfl, ?_, rfl, I1.bare, raises_own T.exC T.tyC, q1 d (I1.hok.fresh dbig)⟩
      · by_cases hb : b = hp.objs.size + 1
        · have q' : G'.get? b = some o := q
          rw [hb, ge] at q'
          cases q'
        · exact (gk b hb).symm.trans q
      · rw [upd_ne (Ne.symm M2.dne)]
        exact I1.hok.fresh (Nat.le_succ _)
/-- raise C(fld = e) -/
def tRaiseK (C : Addr) (fld : Str) (W : WX) (tk : TA) : TS := fun _ σ H => tMkK C fld tk σ H fun cls d H' => W cls d σ H'
theorem ps_raiseK {kws : List Keyword} {ta : TA} {W : WX} {p pos pos2 : Pos} {k : Nat} (hc : X.calm = true) (S : KShape st text fld) (T : KwT X.prog X.K X.mg st nx qual text fld C fI) (hr : Room k X.A) (tk : Takes X W) (hkw : PK X kws ta) (hg : Gl X nx := by rfl)
    (hall : (backToKw pos (keywordEach kws X.env)).all (·.1.isSome) = true := by rfl) (hks : (backToKw pos (keywordEach kws X.env)).filterMap (·.1) = [fld] := by rfl) (hdb : (nx == ("__debug__" : Str)) = false := by decide)
    (hpl : ((backTo pos (starEach [] X.env)).any (·.1) || (backToKw pos (keywordEach kws X.env)).any (·.1.isNone)) = false := by rfl) :
    PS X (.Raise (some (.Call (.Name nx p) [] kws pos)) none pos2) (tRaiseK C fld W ta) := ps_raise hc tk (pmk_kw S T hr hkw hg hall hks hdb hpl)
end
end
section
section
open KwX
abbrev s_dec : Stmt := inClass (top 6) 0
abbrev s_inv : Stmt := inClass (top 4) 0
theorem sh_dec : KShape s_dec "a code is malformed" "offset" := ⟨⟨_, _, _, _, _, _, _, _, _, _, _, rfl, ⟨_, fun _ => rfl⟩⟩, ⟨_, _, rfl⟩, rfl, rfl, rfl, rfl, by decide +kernel, rfl, rfl, rfl, by decide, by decide, fun _ _ _ _ _ _ _ _ _ => by rfl⟩
theorem sh_inv : KShape s_inv "a map is invalid" "index" := ⟨⟨_, _, _, _, _, _, _, _, _, _, _, rfl, ⟨_, fun _ => rfl⟩⟩, ⟨_, _, rfl⟩, rfl, rfl, rfl, rfl, by decide +kernel, rfl, rfl, rfl, by decide, by decide, fun _ _ _ _ _ _ _ _ _ => by rfl⟩
end
end
section
/-! ### zip of two texts: the library's zip over any two iterators that draw (KE.GoesZip), told in the form of the readings -/
namespace ZS
theorem itUp {h h' : Heap} {it : Addr} {ty : String} {x : Str} {t : Tok} {i : Nat} (a : h.IsStrIter it ty x t i) (k : ∀ o, h.get? it = some o → h'.get? it = some o) : h'.IsStrIter it ty x t i :=
  let ⟨o, e, r⟩ := a; ⟨o, k o e, r⟩
/-- one of the five cells -/
theorem five {n : Nat} {c : Addr} (h : c ∈ [(n + 4 : Nat), n + 2, n + 3, n, n + 1]) : n ≤ c := by
  simp only [List.mem_cons, List.not_mem_nil, or_false] at h
  rcases h with h | h | h | h | h <;> rw [h] <;> omega
/-- two texts, their signs in new pairs -/
def ItzS (x1 x2 : Str) : It :=
  ⟨fun i _ => i < x1.cps.size ∧ i < x2.cps.size, fun i H v H' => ∃ T c1 c2, v = .ref T ∧ H T = none ∧ H' = upd H T (.tup [.str ⟨#[c1]⟩, .str ⟨#[c2]⟩]) ∧ x1.cps[i]? = some c1 ∧ x2.cps[i]? = some c2,
    fun i _ => i ≤ x1.cps.size ∧ i ≤ x2.cps.size ∧ (i = x1.cps.size ∨ i = x2.cps.size)⟩
/-- the cells as they stand at turn i -/
structure At (x1 x2 : Str) (t1 t2 : Tok) (z TI TO i1 i2 : Addr) (i : Nat) (h : Heap) : Prop where
  zip : IsZip h z TI TO .none
  src : IsTupOf2 h TI (.ref i1) (.ref i2)
  out : ∃ x y, IsTupOf2 h TO x y
  one : h.IsStrIter i1 (strIterType x1) x1 t1 i
  two : h.IsStrIter i2 (strIterType x2) x2 t2 i
section
variable {x1 x2 : Str} {t1 t2 : Tok} {z TI TO i1 i2 : Addr} {i : Nat} {h h' : Heap}
theorem At.look (a : At x1 x2 t1 t2 z TI TO i1 i2 i h) : ∀ c ∈ [z, TI, TO, i1, i2], ∃ o, h.get? c = some o ∧ ∀ v, o.data ≠ .cell v := by
  obtain ⟨_, _, ho⟩ := a.out
  obtain ⟨o1, e1, _, d1⟩ := a.one
  obtain ⟨o2, e2, _, d2⟩ := a.two
  simp only [List.forall_mem_cons, List.not_mem_nil, false_imp_iff, implies_true, and_true]
  exact ⟨⟨_, a.zip, nofun⟩, ⟨_, a.src, nofun⟩, ⟨_, ho, nofun⟩, ⟨o1, e1, by rw [d1]; nofun⟩, ⟨o2, e2, by rw [d2]; nofun⟩⟩
theorem At.move (a : At x1 x2 t1 t2 z TI TO i1 i2 i h) (k : ∀ c ∈ [z, TI, TO, i1, i2], ∀ o, h.get? c = some o → h'.get? c = some o) : At x1 x2 t1 t2 z TI TO i1 i2 i h' := by
  simp only [List.forall_mem_cons, List.not_mem_nil, false_imp_iff, implies_true, and_true] at k
  exact ⟨k.1 _ a.zip, k.2.1 _ a.src, let ⟨x, y, e⟩ := a.out; ⟨x, y, k.2.2.1 _ e⟩, itUp a.one k.2.2.2.1, itUp a.two k.2.2.2.2⟩
end
theorem out5 {z TI TO i1 i2 c : Addr} (h : c ∉ [z, TI, TO, i1, i2]) : c ≠ z ∧ c ≠ TO ∧ c ≠ i1 ∧ c ≠ i2 := by
  simp only [List.mem_cons, List.not_mem_nil, or_false, not_or] at h
  exact ⟨h.1, h.2.2.1, h.2.2.2⟩
theorem turn_zipS {P : Program} {w : World} {K : PySem.W.Frag} {elts : List Expr} {kk : Nat} {tpos : Pos} {x1 x2 : Str} {t1 t2 : Tok} {z TI TO i1 i2 : Addr} (S : ZipSep2 z TI TO i1 i2 [i1] [i2]) :
    Turn P w K (.Tuple elts kk tpos) (ItzS x1 x2) [z, TI, TO, i1, i2] z (At x1 x2 t1 t2 z TI TO i1 i2) where
  mem := .head _
  obj := fun _ _ a => a.look
  keep := fun _ _ _ a k => a.move k
  item := by
    rintro X rfl rfl rfl hc i pins s σ H E I hf a ⟨l1, l2⟩
    have dr := I.ok.hd hc
    have lz := Heap.lt_size a.zip
    obtain ⟨p, q, ho⟩ := a.out
    refine wpAny_pyNext_zipD2_item S (Draws.text (show X.A.in1.handled = none from dr) i1 x1 t1) (Draws.text (show X.A.in1.handled = none from dr) i2 x2 t2) a.zip a.src ho a.one a.two l1 l2
      fun u v g tk ⟨c, m, e1, r1⟩ ⟨d, n, e2, r2⟩ az aO a1 a2 aT az' fr => ⟨_, rfl, wpAny_letOwnedTupleGo_zip (s := { s with heap := g, toks := tk }) az fun g' b sb => ?_⟩
    subst r1 r2
    have far : ∀ b o, b ∉ [z, TI, TO, i1, i2] → s.heap.get? b = some o → g'.get? b = some o := fun b o nb e => (sb.2 b (out5 nb).1).trans (fr b o (out5 nb).1 (out5 nb).2.1 (out5 nb).2.2.1 (out5 nb).2.2.2 e)
    have tT : g'.get? s.heap.objs.size = some { cls := .type "tuple", data := .seq #[.str ⟨#[c]⟩ m, .str ⟨#[d]⟩ n] } := (sb.2 _ (Nat.ne_of_gt lz)).trans aT
    have I' : Inv X pins σ (upd H s.heap.objs.size (.tup [.str ⟨#[c]⟩, .str ⟨#[d]⟩])) { s with heap := g', toks := tk } :=
      I.turnedNew (t' := tk) far hf (Nat.le_refl _) ⟨by show 2 ≤ sizeLine; decide, [_, _], .cons ⟨m, rfl⟩ (.cons ⟨n, rfl⟩ .nil), ⟨_, tT, rfl, _, rfl⟩⟩
    refine ⟨.ref s.heap.objs.size, _, I', rfl, ⟨_, c, d, rfl, I.hok.fresh (Nat.le_refl _), rfl, e1, e2⟩, ⟨b, (sb.2 _ S.TIz).trans (fr _ _ S.TIz S.TITO S.TIi1 S.TIi2 a.src), ⟨_, _, (sb.2 _ S.TOz).trans aO⟩, itUp a1 fun o e => (sb.2 _ S.zi1.symm).trans e, itUp a2 fun o e => (sb.2 _ S.zi2.symm).trans e⟩, fun b hb => ?_⟩
    obtain ⟨o, e, _⟩ := a.look b hb
    exact (upd_ne (Nat.ne_of_lt (Heap.lt_size e))).trans (hf b hb).1
  done := by
    rintro X rfl rfl rfl hc i pins s σ H E I hf a ⟨g1, g2, g3⟩
    have dr := I.ok.hd hc
    obtain ⟨p, q, ho⟩ := a.out
    exact wpAny_pyNext_zipD2_end S (Draws.text (show X.A.in1.handled = none from dr) i1 x1 t1) (Draws.text (show X.A.in1.handled = none from dr) i2 x2 t2) a.zip a.src ho a.one a.two g1 g2 g3
      fun g tk fr => ⟨rfl, I.turnedL (t' := tk) (fun b o nb e => fr b o (out5 nb).1 (out5 nb).2.1 (out5 nb).2.2.1 (out5 nb).2.2.2 e) hf⟩
  self := fun _ _ _ _ _ a h => wpAny_pyIter_zip a.zip h
def iZipS (ta : TA) : TI := fun σ H R => ta σ H fun vs H1 => ∃ x1 x2, vs = [.str x1, .str x2] ∧ R (ItzS x1 x2) H1
theorem pi_zipS {X : Cx} {e e2 : Expr} {ta : TA} {p pos tpos : Pos} {elts : List Expr} {kk : Nat} (hg : Gl X "zip") (hm : X.mg "zip" = none) (ha : PA X [e, e2] ta)
    (hs : starEach [e, e2] X.env = (false, eval e X.env) :: starEach [e2] X.env := by rfl) (hpl : (backTo pos (starEach [e2] X.env)).any (·.1) = false := by rfl) :
    PI X (.Tuple elts kk tpos) (.Call (.Name "zip" p) [e, e2] [] pos) (iZipS ta) := by
  constructor
  intro pins s σ H R I h
  refine PyProof.Rows.Call_ (ld_blt I hg hm PyProof.Rows.boot_zip (PyProof.Rows.callWith_type1 (thn (ha.run pos pins s σ H _ I h) ?_) hs hpl))
  rintro us s1 ⟨vs, H1, I1, r1, x1, x2, rfl, q⟩
  obtain _ | ⟨⟨t1, rfl⟩, r1⟩ := r1
  obtain _ | ⟨⟨t2, rfl⟩, r1⟩ := r1
  cases r1
  exact zip_begins2 (begins_text x1 t1) (begins_text x2 t2) trivial trivial fun g gz gs go g1 g2 _ hk => wpAny_pyIter_zip gz
    ⟨_, _, _, _, H1, rfl, I1.kept (t' := s1.toks) hk, turn_zipS (zip_sep2 (fun _ h => nomatch h) (fun _ h => nomatch h)), ⟨gz, gs, ⟨_, _, go⟩, ⟨_, g1, rfl, rfl⟩, ⟨_, g2, rfl, rfl⟩⟩, fun c hc => I1.fpOk (five hc) (I1.hok.fresh (five hc)), q⟩
end ZS
end
section
/-! ### enumerate of a text, of a tuple -/
namespace EN
abbrev enO (it : Addr) : Obj := { cls := .type "enumerate", data := .fields #[.none, .bool false, .ref it, rawInt 0, .none, .none] }
/-- enumerate(v), v told by the iterator that it begins (KE.GoesMore's Begins): the library has it with a start alone -/
theorem new1 {v : Value} {o : Obj} {Hv : Heap → Prop} (B : Begins v o Hv) :
    Meets (Builtin.«enumerate.__new__» ⟨[.type "enumerate", v], []⟩) (fun _ R s => Hv s.heap ∧ R (.ok (.ret (.ref (s.heap.push o).objs.size))) { s with heap := (s.heap.push o).push (enO s.heap.objs.size) }) :=
  .of_wp fun prog w A R s ⟨hv, k⟩ => by
    have sb := sub_enumerate
    have bg : ∀ {A' : Around} {E : Value → Shared → Prop} {Q : Value → Shared → Prop}, Q (.ref s.heap.objs.size) { s with heap := s.heap.push o } → wpAny (model prog w) A' (pyIter v) Q E s := fun q => B.iter prog w _ _ s _ hv q
    obtain ⟨hp, g, d, tk, os⟩ := s
    wp_walk using bg
    refine wpAny_stack_any fun _ => wpAny_pure ?_
    split
    · rename_i c _ _ _ _ _
      cases c == Value.type "enumerate" <;> (wp_walk using bg; exact ⟨_, rfl, k⟩)
    · wp_walk using bg
      exact ⟨_, rfl, k⟩
theorem begun {prog : Program} {w : World} {A : Around} {E : Value → Shared → Prop} {s : Shared} {v : Value} {o : Obj} {Hv : Heap → Prop} {Q : Value → Shared → Prop} (B : Begins v o Hv) (hv : Hv s.heap)
    (q : ∀ g, IsEnum g (s.heap.objs.size + 1) s.heap.objs.size 0 .none → g.get? s.heap.objs.size = some o → (∀ b u, s.heap.get? b = some u → g.get? b = some u) → Q (.ref (s.heap.objs.size + 1)) { s with heap := g }) :
    wpAny (model prog w) A (call (.type "enumerate") [v]) Q E s := by
  have n1 : (s.heap.push o).objs.size = s.heap.objs.size + 1 := Heap.size_push ..
  have e : ((s.heap.push o).push (enO s.heap.objs.size)).get? (s.heap.push o).objs.size = some (enO s.heap.objs.size) := Heap.get?_push_size _ rfl
  refine callType_new F.called_enumerate (by decide) (F.typeCall_enumerate_1 _) (F.newCall_enumerate_1 _) (fun _ => F.args_object_init_2 _ _) F.entry_enumerate_new (new1 B) ⟨hv, ⟨_, e, rfl⟩, ?_⟩
  rw [n1] at e ⊢
  exact q _ e (Heap.get?_push_of_some _ (Heap.get?_push_size _ B.free)) fun b u x => Heap.get?_push_of_some _ (Heap.get?_push_of_some _ x)
/-- the common part: an enumerate over an iterator that draws one value a turn -/
theorem turn_D {P : Program} {w : World} {K : PySem.W.Frag} {elts : List Expr} {kk : Nat} {tpos : Pos} {J : It} {e it : Addr} {fp : List Addr} (tn : Nat → Heap → Prop) (hne : e ≠ it) (hef : e ∉ fp)
    (hlive : ∀ i h, tn i h → ∃ o, h.get? it = some o ∧ ∀ v, o.data ≠ .cell v) (hkeep : ∀ i h h', tn i h → (∀ o, h.get? it = some o → h'.get? it = some o) → tn i h')
    (hD : ∀ (X : Cx), X.prog = P → X.w = w → X.K = K → ∀ (i : Nat) (pins : List (Addr × Obj)) (s : Shared) (σ : St) (H : Hp), Inv X pins σ H s → tn i s.heap → (J.go i H ∨ J.stop i H) →
      ∃ (m : Nat) (Pd : Nat → Value → Prop) (St : Nat → Heap → Prop), (∀ A' : Around, A'.handled = none → Draws P w A' it fp m Pd St) ∧ St i s.heap ∧ (J.go i H → i < m) ∧ (J.stop i H → i = m) ∧ (∀ h', St (i + 1) h' → tn (i + 1) h') ∧
        ∀ u, Pd i u → ∃ x, RelV x u ∧ ∀ T, H T = none → J.yld i H (.ref T) (upd H T (.tup [.int (i : Nat), x]))) :
    Turn P w K (.Tuple elts kk tpos) J [e, it] e (fun i h => (∃ old, IsEnum h e it ((i : Nat) : Int) old) ∧ tn i h) where
  mem := .head _
  obj := fun i h ⟨⟨_, he⟩, ht⟩ => by
    simp only [List.forall_mem_cons, List.not_mem_nil, false_imp_iff, implies_true, and_true]
    exact ⟨⟨_, he, nofun⟩, hlive i h ht⟩
  keep := fun i h h' ⟨⟨old, he⟩, ht⟩ k => by
    simp only [List.forall_mem_cons, List.not_mem_nil, false_imp_iff, implies_true, and_true] at k
    exact ⟨⟨old, k.1 _ he⟩, hkeep i h h' ht k.2⟩
  item := by
    rintro X rfl rfl rfl hc i pins s σ H E I hf ⟨⟨old, he⟩, ht⟩ hg
    obtain ⟨m, Pd, St, D, hSt, lt, _, nx, val⟩ := hD X rfl rfl rfl i pins s σ H I ht (.inl hg)
    have dr := I.ok.hd hc
    have le := Heap.lt_size he
    have li : it < s.heap.objs.size := let ⟨_, q, _⟩ := hlive _ _ ht; Heap.lt_size q
    refine wpAny_pyNext_enum_itemD (D X.A.in1 dr) he hSt (lt hg) hne hef fun u g tk hu ho hit aT _ fr => ⟨_, rfl, wpAny_letOwnedTupleGo_enum (s := { s with heap := g, toks := tk + 1 }) ho fun g' b sb => ?_⟩
    obtain ⟨x, ru, hy⟩ := val u hu
    have tT : g'.get? s.heap.objs.size = some { cls := .type "tuple", data := .seq #[.int i tk, u] } := (sb.2 _ (Nat.ne_of_gt le)).trans aT
    have out : ∀ {b : Addr}, b ∉ [e, it] → b ≠ e ∧ b ≠ it := fun nb => by simpa only [List.mem_cons, List.not_mem_nil, or_false, not_or] using nb
    have I' : Inv X pins σ (upd H s.heap.objs.size (.tup [.int (i : Nat), x])) { s with heap := g', toks := tk + 1 } :=
      I.turnedNew (ch := [e, it]) (fun c o nc q => (sb.2 c (out nc).1).trans (fr c o (out nc).1 (out nc).2 q)) hf (Nat.le_refl _) ⟨by show 2 ≤ sizeLine; decide, [.int i tk, u], .cons ⟨_, rfl⟩ (.cons ru .nil), ⟨_, tT, rfl, _, rfl⟩⟩
    refine ⟨.ref s.heap.objs.size, _, I', rfl, hy _ (I.hok.fresh (Nat.le_refl _)), ⟨⟨u, Int.natCast_succ i ▸ b⟩, hkeep _ _ _ (nx _ hit) fun o q => (sb.2 it (Ne.symm hne)).trans q⟩, ?_⟩
    intro c hc'
    have lc : c < s.heap.objs.size := by
      rcases (by simpa using hc' : c = e ∨ c = it) with rfl | rfl <;> assumption
    exact (upd_ne (Nat.ne_of_lt lc)).trans (hf c hc').1
  done := by
    rintro X rfl rfl rfl hc i pins s σ H E I hf ⟨⟨old, he⟩, ht⟩ hg
    obtain ⟨m, Pd, St, D, hSt, _, sp, _, _⟩ := hD X rfl rfl rfl i pins s σ H I ht (.inr hg)
    have dr := I.ok.hd hc
    obtain ⟨f0, f1, f2, f3, f4, f5⟩ := hf it (.tail _ (.head _))
    exact wpAny_pyNext_enum_endD (D X.A.in1 dr) he (sp hg ▸ hSt) fun g fr => ⟨rfl, I.turned (t' := s.toks) (fun b o nb q => fr b o nb q) f0 f1 f3 f4 f5⟩
  self := fun _ _ _ _ _ ⟨⟨_, he⟩, _⟩ h => wpAny_pyIter_enum he h
/-- a text -/
def IteS (x : Str) : It := ⟨fun i _ => i < x.cps.size, fun i H v H' => ∃ T c, v = .ref T ∧ H T = none ∧ H' = upd H T (.tup [.int (i : Nat), .str ⟨#[c]⟩]) ∧ x.cps[i]? = some c, fun i _ => i = x.cps.size⟩
/-- a tuple, fixed -/
def IteT (K : PySem.W.Frag) (a : Addr) (xs : List V) : It := ⟨fun i H => SqT K H a xs ∧ i < xs.length, fun i H v H' => ∃ T x, v = .ref T ∧ H T = none ∧ H' = upd H T (.tup [.int (i : Nat), x]) ∧ xs[i]? = some x, fun i H => SqT K H a xs ∧ i = xs.length⟩
theorem turn_S {P : Program} {w : World} {K : PySem.W.Frag} {elts : List Expr} {kk : Nat} {tpos : Pos} {x : Str} {t : Tok} {e it : Addr} (hne : e ≠ it) :
    Turn P w K (.Tuple elts kk tpos) (IteS x) [e, it] e (fun i h => (∃ old, IsEnum h e it ((i : Nat) : Int) old) ∧ h.IsStrIter it (strIterType x) x t i) := by
  refine turn_D (fp := [it]) (fun i h => h.IsStrIter it (strIterType x) x t i) hne (fun q => hne (List.mem_singleton.mp q)) (fun i h ⟨o, e, _, d⟩ => ⟨o, e, by rw [d]; nofun⟩) (fun i h h' a k => ZS.itUp a k)
    fun X _ _ _ i pins s σ H I a _ => ⟨_, _, _, fun A' hh => Draws.text hh it x t, a, id, id, fun _ q => q, ?_⟩
  rintro u ⟨c, u', hc, rfl⟩
  exact ⟨.str ⟨#[c]⟩, ⟨u', rfl⟩, fun T hT => ⟨T, c, rfl, hT, rfl, hc⟩⟩
theorem turn_T {P : Program} {w : World} {K : PySem.W.Frag} {elts : List Expr} {kk : Nat} {tpos : Pos} {a e it : Addr} {xs : List V} (hne : e ≠ it) (hae : e ≠ a) (hai : a ≠ it) :
    Turn P w K (.Tuple elts kk tpos) (IteT K a xs) [e, it] e (fun i h => (∃ old, IsEnum h e it ((i : Nat) : Int) old) ∧ h.IsTupleIter it a i) := by
  refine turn_D (fp := [it, a]) (fun i h => h.IsTupleIter it a i) hne (by simp [hne, hae]) (fun i h ⟨o, e, _, d⟩ => ⟨o, e, by rw [d]; nofun⟩) (fun i h h' st k => st.at k) ?_
  rintro X hP hw rfl i pins s σ H I st hg
  have hq : SqT X.K H a xs := hg.elim (·.1) (·.1)
  obtain ⟨its, rv, p, _⟩ := I.tuple hq
  have hsz : its.toArray.size = xs.length := by simp [rv.length]
  refine ⟨_, _, _, fun A' hh => Draws.tuple hh it a hai its.toArray, ⟨st, p⟩, fun q => hsz ▸ q.2, fun q => hsz ▸ q.2, fun _ q => q.1, fun u hu => ?_⟩
  have hi : i < xs.length := hsz ▸ (Array.getElem?_eq_some_iff.mp hu).1
  have hx : xs[i]? = some xs[i] := List.getElem?_eq_getElem hi
  obtain ⟨u', hu', ru⟩ := rv.get hx
  rw [List.getElem?_toArray, hu'] at hu
  cases hu
  exact ⟨xs[i], ru, fun T hT => ⟨T, _, rfl, hT, rfl, hx⟩⟩
def iEnS (ta : TA) : TI := fun σ H R => ta σ H fun vs H1 => ∃ x, vs = [.str x] ∧ R (IteS x) H1
def iEnT (K : PySem.W.Frag) (ta : TA) : TI := fun σ H R => ta σ H fun vs H1 => ∃ a xs, vs = [.ref a] ∧ SqT K H1 a xs ∧ R (IteT K a xs) H1
section
variable {X : Cx} {e : Expr} {ta : TA} {p pos tpos : Pos} {elts : List Expr} {kk : Nat}
theorem fresh2 {pins : List (Addr × Obj)} {σ : St} {H1 : Hp} {s1 : Shared} (I1 : Inv X pins σ H1 s1) : ∀ b ∈ [s1.heap.objs.size + 1, s1.heap.objs.size], FpOk X pins H1 b := by
  simp only [List.forall_mem_cons, List.not_mem_nil, false_imp_iff, implies_true, and_true]
  exact ⟨I1.fpOk (Nat.le_succ _) (I1.hok.fresh (Nat.le_succ _)), I1.fpOk (Nat.le_refl _) (I1.hok.fresh (Nat.le_refl _))⟩
theorem pi_enumS (hg : Gl X "enumerate") (hm : X.mg "enumerate" = none) (ha : PA X [e] ta) (hs : starEach [e] X.env = [(false, eval e X.env)] := by rfl) :
    PI X (.Tuple elts kk tpos) (.Call (.Name "enumerate" p) [e] [] pos) (iEnS ta) := by
  constructor
  intro pins s σ H R I h
  refine PyProof.Rows.Call_ (ld_blt I hg hm PyProof.Rows.boot_enumerate (PyProof.Rows.callWith_type1 (thn (ha.run pos pins s σ H _ I h) ?_) hs rfl))
  rintro us s1 ⟨vs, H1, I1, r1, x, rfl, q⟩
  obtain _ | ⟨⟨t, rfl⟩, r1⟩ := r1
  cases r1
  exact begun (begins_text x t) trivial fun g he hit hk => wpAny_pyIter_enum he ⟨_, _, _, _, H1, rfl, I1.kept (t' := s1.toks) hk, turn_S (Nat.succ_ne_self _), ⟨⟨.none, he⟩, ⟨_, hit, rfl, rfl⟩⟩, fresh2 I1, q⟩
theorem pi_enumT (hg : Gl X "enumerate") (hm : X.mg "enumerate" = none) (ha : PA X [e] ta) (hs : starEach [e] X.env = [(false, eval e X.env)] := by rfl) :
    PI X (.Tuple elts kk tpos) (.Call (.Name "enumerate" p) [e] [] pos) (iEnT X.K ta) := by
  constructor
  intro pins s σ H R I h
  refine PyProof.Rows.Call_ (ld_blt I hg hm PyProof.Rows.boot_enumerate (PyProof.Rows.callWith_type1 (thn (ha.run pos pins s σ H _ I h) ?_) hs rfl))
  rintro us s1 ⟨vs, H1, I1, r1, a, xs, rfl, hq, q⟩
  obtain _ | ⟨r, r1⟩ := r1
  cases r1
  cases r
  obtain ⟨its, rv, p', _⟩ := I1.tuple hq
  have la : a < s1.heap.objs.size := let ⟨_, ho, _⟩ := id p'; Heap.lt_size ho
  exact begun (begins_tuple a its.toArray) p' fun g he hit hk => wpAny_pyIter_enum he ⟨_, _, _, _, H1, rfl, I1.kept (t' := s1.toks) hk, turn_T (Nat.succ_ne_self _) (Nat.ne_of_gt (Nat.lt_succ_of_lt la)) (Nat.ne_of_lt la), ⟨⟨.none, he⟩, ⟨_, hit, rfl, rfl⟩⟩, fresh2 I1, q⟩
end
end EN
end
section
/-! ### a, *b = a tuple -/
namespace StarX
theorem shift {prog : Program} {w : World} {A : Around} {I : Addr} {fp wr : List Addr} {n : Nat} {P : Nat → Value → Prop} {St : Nat → Heap → Prop} (W : Walks prog w A I fp wr (n + 1) P St) :
    Walks prog w A I fp wr n (fun i => P (i + 1)) (fun i => St (i + 1)) :=
  ⟨W.sub, fun i => W.frame (i + 1), fun i s Q E hi st hQ => W.item (i + 1) s Q E (by omega) st hQ, W.done, fun i => W.self (i + 1)⟩
section
variable {prog : Program} {w : World} {A : Around} {E : Value → Shared → Prop} {s : Shared}
theorem unpackItems_star {t : Addr} {x : Value} {items : List Value} {Q : List Value → Shared → Prop} (hh : A.handled = none) (ht : PyProof.Rows.IsTup s.heap t (x :: items).toArray) (hz : items.length ≤ 1000000)
    (hQ : ∀ (h' : Heap) (tk : Nat), (∀ b o, s.heap.get? b = some o → h'.get? b = some o) → Q [x, .ref h'.objs.size] ⟨h'.push { cls := .type "list", data := .seq items.toArray }, s.gens, s.drawn, tk, s.os⟩) :
    wpAny (model prog w) A (unpackItems (.ref t) 2 (some 1)) Q E s := by
  have hlt : t ≠ s.heap.objs.size := by obtain ⟨o, ho, _⟩ := ht; exact Nat.ne_of_lt (Heap.lt_size ho)
  unfold unpackItems
  refine wpAny_bind ?_
  · unfold notIterableAtAll
    refine wpAny_bind (wpAny_specialOf ht.typeIs PySem.F.slot_tuple_iter.lookup ?_)
    refine wpAny_pure ?_
    simp only [Bool.false_eq_true, if_false]
    refine wpAny_bind (wpAny_holding (PyProof.Rows.iter_tuple ht ?_))
    refine wpAny_bind (wpAny_holding (PyProof.Rows.draw_tuple hlt 1 0 _ _ ⟨_, Heap.get?_push_size _ rfl, rfl, rfl⟩ (ht.push _) (by simp) fun h₁ hit₁ hs₁ => ?_))
    simp only [List.drop_zero, List.take_succ_cons, List.take_zero, List.length_cons, List.length_nil]
    rw [if_neg (by simp)]
    have ht₁ : PyProof.Rows.IsTup h₁ t (x :: items).toArray := (ht.push _).extBut hs₁.extBut hlt
    have W := Walks.tuple (prog := prog) (w := w) (A := A.in1) (show A.in1.handled = none from hh) s.heap.objs.size t hlt (x :: items).toArray
    have e : (x :: items).toArray.size = items.length + 1 := by simp
    rw [e] at W
    have tlt : t < h₁.objs.size := by obtain ⟨o, ho, _⟩ := ht₁; exact Heap.lt_size ho
    have ilt : s.heap.objs.size < h₁.objs.size := by
      obtain ⟨o, ho, _⟩ := hit₁
      exact Heap.lt_size ho
    refine wpAny_bind (wpAny_holding (wpAny_collect_iter (.inr (.inr (.inr rfl))) (shift W).toS (fun i s st => ?_) ⟨hit₁, ht₁⟩ (fun b hb => ?_) (by simp) (fun s' acc hm hacc => ?_) (small (by omega))))
    · obtain ⟨o, ho, hc, _⟩ := st.1
      exact ⟨o, ho, hc⟩
    · have e' : b = s.heap.objs.size ∨ b = t := by simpa using hb
      rcases e' with z | z
      · rw [z]; exact ilt
      · rw [z]; exact tlt
    · have ea : acc.toList = items := by
        obtain ⟨h1, h2⟩ := hacc
        apply List.ext_getElem?
        intro j
        cases q : acc[j]? with
        | none =>
          have l1 : acc.size ≤ j := Array.getElem?_eq_none_iff.mp q
          have l2 : items.length ≤ j := by omega
          rw [Array.getElem?_toList, q, List.getElem?_eq_none_iff.mpr l2]
        | some v =>
          have z := h2 j v q
          rw [Array.getElem?_toList, q]
          have z' : (x :: items)[j + 1]? = some v := by simpa using z
          rw [List.getElem?_cons_succ] at z'
          exact z'.symm
      rw [ea]
      simp only [Nat.sub_self, Nat.zero_add, Nat.not_lt_zero, if_false, Nat.sub_zero]
      obtain ⟨h', g', d', tk', os'⟩ := s'
      have hg : g' = s.gens := hm.gens
      have hd : d' = s.drawn := hm.drawn
      have ho : os' = s.os := hm.os
      subst hg hd ho
      have hk : ∀ b o, s.heap.get? b = some o → h'.get? b = some o := fun b o q =>
        hm.heap b o (by simp; exact Nat.ne_of_lt (Heap.lt_size q)) (hs₁.extBut b o (Nat.ne_of_lt (Heap.lt_size q)) (Heap.get?_push_of_some _ q))
      refine wpAny_bind (wpAny_newObj_type (wpAny_pure ?_) ?_)
      · simp only [List.take_length, List.drop_length, List.append_nil, List.cons_append, List.nil_append]
        exact hQ h' tk' hk
      · rw [List.take_length]
        exact small hz
theorem assign_star {env : Env} {elts : List Expr} {x1} {pos : Pos} {t : Addr} {x : Value} {items : List Value} {Q : Unit → Shared → Prop} (hh : A.handled = none) (ht : PyProof.Rows.IsTup s.heap t (x :: items).toArray) (hz : items.length ≤ 1000000)
    (hn : (assignEach elts env).length = 2) (hstar : (assignEach elts env).findIdx? (·.1) = some 1)
    (h : ∀ (h' : Heap) (tk : Nat), (∀ b o, s.heap.get? b = some o → h'.get? b = some o) →
      wpAny (model prog w) A (assignInOrder ((assignEach elts env).map (·.2)) [x, .ref h'.objs.size]) Q E ⟨h'.push { cls := .type "list", data := .seq items.toArray }, s.gens, s.drawn, tk, s.os⟩) :
    wpAny (model prog w) A (assign (.Tuple elts x1 pos) env (.ref t)) Q E s := by
  rw [PyProof.Rows.assign_Tuple]
  refine wpAny_bind (wpAny_standAt ?_)
  unfold unpack
  rw [hn, hstar]
  exact wpAny_bind (wpAny_holding (unpackItems_star hh ht hz h))
end
end StarX
/-- a, *b = .. -/
def gStar (K : PySem.W.Frag) (t : TGs) : TG := fun v σ H Q => ∃ a x xs, v = .ref a ∧ SqT K H a (x :: xs) ∧ xs.length ≤ 1000000 ∧ ∀ L, H L = none → t [x, .ref L] σ (upd H L (.lst xs)) Q
theorem pg_star {X : Cx} {pos p2 : Pos} {e1 e2 : Expr} {k : Nat} {t : TGs} (hc : X.calm = true) (h : PGs X [e1, e2] t)
    (hn : (assignEach [e1, .Starred e2 p2] X.env).length = 2 := by rfl) (hst : (assignEach [e1, .Starred e2 p2] X.env).findIdx? (·.1) = some 1 := by rfl)
    (hm : (assignEach [e1, .Starred e2 p2] X.env).map (·.2) = (assignEach [e1, e2] X.env).map (·.2) := by rfl) : PG X (.Tuple [e1, .Starred e2 p2] k pos) (gStar X.K t) := by
  refine ⟨fun pins s σ H v u Q I r hw => ?_⟩
  obtain ⟨a, x, xs, e1, hq, hl, hw⟩ := hw
  subst e1
  cases r
  obtain ⟨its, rv, ht, hz⟩ := I.tuple hq
  cases rv with
  | @cons _ u0 _ ur ra rw' =>
    refine StarX.assign_star (I.ok.hd hc) ht (by rw [← Paired.length rw']; exact hl) hn hst fun h' tk hk => ?_
    rw [hm]
    have I1 : Inv X pins σ H ⟨h', s.gens, s.drawn, tk, s.os⟩ := I.kept (t' := tk) hk
    have new : ObjOk X.prog X.w (upd H h'.objs.size (.lst xs)) (h'.push { cls := .type "list", data := .seq ur.toArray }) h'.objs.size (.lst xs) := by
      exact ⟨small (by omega), ur, 0, rw', Heap.get?_push_size _ rfl⟩
    have I2 : Inv X pins σ (upd H h'.objs.size (.lst xs)) ⟨h'.push { cls := .type "list", data := .seq ur.toArray }, s.gens, s.drawn, tk, s.os⟩ :=
      I1.laid (t' := tk) (fun b u q => Heap.get?_push_of_some _ q) (Nat.le_refl _) new
    exact h.run pins _ σ _ [x, .ref h'.objs.size] _ Q I2 (.cons ra (.cons rfl .nil)) (hw _ (I1.hok.fresh (Nat.le_refl _)))
end
section
/-! ### sets of int tuples out of a universe of at most 64 -/
namespace S6
open PySem.Spec PyProof.Rows
theorem few_of {α : Type} [DecidableEq α] : ∀ (l D : List α), l.Nodup → (∀ x ∈ l, x ∈ D) → l.length ≤ D.length
  | [], _, _, _ => Nat.zero_le _
  | x :: r, D, hn, hs => by
    obtain ⟨h1, h2⟩ := List.nodup_cons.mp hn
    have hx := hs x List.mem_cons_self
    have ih := few_of r (D.erase x) h2 fun y hy => (List.mem_erase_of_ne (fun e => by rw [e] at hy; exact h1 hy)).mpr (hs y (List.mem_cons_of_mem _ hy))
    rw [List.length_erase_of_mem hx] at ih
    have := List.length_pos_of_mem hx
    rw [List.length_cons]
    omega
abbrev LK := List (Addr × List Int)
/-- the table of such a set -/
structure Tb (P : Program) (w : World) (h : Heap) (a : Addr) (L : LK) (es : Array (Int × Value)) (ep : Nat) (t : SetTable) : Prop where
  at_ : ∃ o, h.get? a = some o ∧ o.ExactSet ∧ o.data = .set es ep t
  rw_ : es.toList = rowsOf P w L
  tb : TabOk t (L.map fun p => thash P w p.2)
  one : (L.map (·.2)).Nodup
  its : ∀ p ∈ L, IsT P w h p.2 p.1
  pl : t.plain = true
  ld : w.params.followText "set-order" = true ∨ t.led = true
  roomy : L.length * 5 < t.mask * 3
  most : L.length ≤ 64
section
variable {P : Program} {w : World} {A : Around} {E : Value → Shared → Prop} {s : Shared} {a : Addr} {L : LK} {es : Array (Int × Value)} {ep : Nat} {t : SetTable}
theorem Tb.n (R : Tb P w s.heap a L es ep t) : es.size = L.length := by
  have h := congrArg List.length R.rw_
  simpa [rowsOf] using h
theorem Tb.np (R : Tb P w s.heap a L es ep t) : t.place.size = L.length := by
  have h := R.tb.sz
  simpa using h
theorem Tb.fit (R : Tb P w s.heap a L es ep t) : t.fits es.size = true := by
  have h1 := R.np
  have h2 := R.n
  have h3 := R.roomy
  unfold SetTable.fits SetTable.fill
  rw [R.tb.dm]
  simp
  omega
theorem Tb.ent (R : Tb P w s.heap a L es ep t) {i : Nat} {p : Addr × List Int} (h : L[i]? = some p) : es[i]? = some (thash P w p.2, .ref p.1) := by
  rw [← Array.getElem?_toList, R.rw_]
  simp [rowsOf, h]
theorem no_dm (m : Nat) : ∀ (n : Nat) (p : SetTable.Probe), p.dummy = none → (nth m p n).dummy = none
  | 0, _, h => h
  | n + 1, p, h => no_dm m n (adv m p) (by unfold adv; split <;> exact h)
/-- the search, from the c-th slot of the way on -/
theorem look (R : Tb P w s.heap a L es ep t) {x : Addr} {k : List Int} (hx : IsT P w s.heap k x) (hu : A.units < cLine) {K : Nat} (b1 : K < 10 * SetTable.turns t.mask)
    (b2 : way t.mask (thash P w k) K ∉ t.place.toList) (b3 : ∀ c, c < K → way t.mask (thash P w k) c ∈ t.place.toList) {Q : SetFound → Shared → Prop}
    (yes : k ∈ L.map (·.2) → Q (.there none) s) (no : k ∉ L.map (·.2) → Q (.free (way t.mask (thash P w k) K) false) s) (f : Nat) :
    ∀ (c : Nat) (stand : Option SetTable.Probe), stand.getD (t.probeStart (thash P w k)) = nth t.mask (runAt t.mask (SetTable.bits (thash P w k) % (t.mask + 1)) (SetTable.bits (thash P w k))) c → c ≤ K → K - c < f →
      (∀ (i : Nat) p, L[i]? = some p → p.2 = k → ∃ c', c ≤ c' ∧ c' < K ∧ t.place.toList[i]? = some (way t.mask (thash P w k) c')) →
      wpAny (model P w) A (setSearchFrom a (.ref x) (thash P w k) true f stand) Q E s := by
  induction f with
  | zero => exact fun c stand _ _ hf _ => absurd hf (Nat.not_lt_zero _)
  | succ f ih =>
    intro c stand hst hc hf hre
    obtain ⟨o, ho, hex, hd⟩ := R.at_
    have ways : ∀ q, (nth t.mask (nth t.mask (runAt t.mask (SetTable.bits (thash P w k) % (t.mask + 1)) (SetTable.bits (thash P w k))) c) q).j = way t.mask (thash P w k) (c + q) := fun q => by rw [← nth_add]
    have hashes : ∀ (i : Nat) p, L[i]? = some p → (es[i]?.map (·.1)).getD 0 = thash P w p.2 := fun i p hp => by rw [R.ent hp]; rfl
    have sp := go_spec t R.tb.ris R.tb.dm (fun i => (es[i]?.map (·.1)).getD 0) (thash P w k) (10 * SetTable.turns t.mask) (K - c) _ (no_dm t.mask c _ rfl) (by omega)
      (fun q hq => by rw [ways]; exact b3 (c + q) (by omega)) (by rw [ways, Nat.add_sub_cancel' hc]; exact b2)
    rw [← hst] at sp
    rw [setSearchFrom_succ]
    refine wpAny_bind (wpAny_setState_of ho hd R.fit ?_)
    dsimp only
    refine wp_if_neg (by unfold SetTable.gaveWay; rw [mask_odd R.tb.mok]; decide) ?_
    try refine wpAny_bind (wpAny_pure ?_)
    have hgo : t.probe (fun i => (es[i]?.map (·.1)).getD 0) (thash P w k) (stand.getD (t.probeStart (thash P w k))) = SetTable.probe.go t (fun i => (es[i]?.map (·.1)).getD 0) (thash P w k) (10 * SetTable.turns t.mask) (stand.getD (t.probeStart (thash P w k))) := rfl
    rcases sp with ⟨q, i, hq, hi, hh, hno, hpr⟩ | ⟨hno, hpr⟩
    · rw [hgo, hpr]
      dsimp only
      rw [hst] at hi hno ⊢
      rw [ways] at hi ⊢
      have hil : i < L.length := by
        have l1 := (List.getElem?_eq_some_iff.mp hi).1
        rw [Array.length_toList, R.np] at l1
        exact l1
      obtain ⟨p, hp⟩ : ∃ p, L[i]? = some p := ⟨_, List.getElem?_eq_getElem hil⟩
      have pm := List.mem_of_getElem? hp
      have sl : t.slot (way t.mask (thash P w k) (c + q)) = .live i := slot_live R.tb.ris hi
      have tail : wpAny (model P w) A (searchRest a (.ref x) (thash P w k) true f es t (way t.mask (thash P w k) (c + q)) i (nth t.mask (nth t.mask (runAt t.mask (SetTable.bits (thash P w k) % (t.mask + 1)) (SetTable.bits (thash P w k))) c) (q + 1))) Q E s := by
        unfold searchRest
        rw [R.ent hp]
        dsimp only
        refine wpAny_bind (wpAny_holding (wpAny_eqBool_tuple hu (R.its p pm) hx (wpAny_bind (wpAny_setState_of ho hd R.fit ?_))))
        dsimp only
        cases hkk : decide (p.2 = k) with
        | true =>
          refine wp_if_pos (by rfl) (wpAny_pure (yes ?_))
          exact List.mem_map.mpr ⟨p, pm, of_decide_eq_true hkk⟩
        | false =>
          have hne : p.2 ≠ k := of_decide_eq_false hkk
          refine wp_if_neg (by decide) ?_
          try refine wpAny_bind (wpAny_pure ?_)
          rw [sameMem]
          dsimp only
          simp only [if_true, sl, R.ent hp]
          refine wpAny_bind (wpAny_isSame_ref_self (wpAny_bind (wpAny_pure ?_)))
          simp only [if_true]
          refine wp_if_neg (by decide) (ih (c + (q + 1)) _ (nth_add t.mask c _ (q + 1)).symm (by omega) (by omega) fun i0 p0 h0 e0 => ?_)
          obtain ⟨c', l1, l2, l3⟩ := hre i0 p0 h0 e0
          refine ⟨c', ?_, l2, l3⟩
          have hz : thash P w k = (es[i0]?.map (·.1)).getD 0 := by rw [hashes i0 p0 h0, e0]
          rcases Nat.lt_trichotomy c' (c + q) with z | z | z
          · refine absurd hz.symm (hno (c' - c) i0 (by omega) ?_)
            rw [ways, Nat.add_sub_cancel' l1]
            exact l3
          · rw [z] at l3
            have s0 := slot_live R.tb.ris l3
            rw [sl] at s0
            injection s0 with s0
            rw [← s0, hp] at h0
            exact absurd ((congrArg Prod.snd (Option.some.inj h0)).trans e0) hne
          · omega
      by_cases hl : t.led = true
      · refine wp_if_neg (by simp [hl]) ?_
        try refine wpAny_bind (wpAny_pure ?_)
        exact tail
      · refine wp_if_pos (by simp [hl]) (wpAny_bind (seen_tup hx (fun y hy => ?_) (wp_if_neg (by decide) ?_)))
        · obtain ⟨e, he, rfl⟩ := List.mem_map.mp hy
          have he1 : e ∈ es := (Array.mem_filter.mp (Array.mem_toList_iff.mp he)).1
          have he2 : e ∈ rowsOf P w L := by rw [← R.rw_]; exact Array.mem_toList_iff.mpr he1
          obtain ⟨p2, hp2, rfl⟩ := List.mem_map.mp he2
          exact ⟨p2.2, p2.1, rfl, R.its p2 hp2⟩
        · try refine wpAny_bind (wpAny_pure ?_)
          exact tail
    · rw [hgo, hpr]
      dsimp only
      rw [hst] at hno ⊢
      rw [ways, Nat.add_sub_cancel' hc]
      refine wpAny_pure (no fun hm => ?_)
      obtain ⟨p0, h0, e0⟩ := List.mem_map.mp hm
      obtain ⟨i0, hi0⟩ := List.getElem?_of_mem h0
      obtain ⟨c', l1, l2, l3⟩ := hre i0 p0 hi0 e0
      refine absurd ?_ (hno (c' - c) i0 (by omega) (by rw [ways, Nat.add_sub_cancel' l1]; exact l3))
      rw [hashes i0 p0 hi0, e0]
theorem seek (R : Tb P w s.heap a L es ep t) {x : Addr} {k : List Int} (hx : IsT P w s.heap k x) (hu : A.units < cLine) {Q : SetFound → Shared → Prop} (yes : k ∈ L.map (·.2) → Q (.there none) s)
    (no : ∀ K, k ∉ L.map (·.2) → way t.mask (thash P w k) K ∉ t.place.toList → (∀ c, c < K → way t.mask (thash P w k) c ∈ t.place.toList) → Q (.free (way t.mask (thash P w k) K) false) s) :
    wpAny (model P w) A (setSearch a (.ref x) (thash P w k) true) Q E s := by
  have hroom := R.roomy
  obtain ⟨K, b1, b2, b3⟩ := R.tb.first (by rw [List.length_map]; omega) (thash P w k)
  have hb : 10 * SetTable.turns t.mask ≤ 1420 := by
    unfold SetTable.turns
    rcases R.tb.mok with e | e | e <;> omega
  unfold setSearch
  refine look R hx hu b1 b2 b3 yes (fun z => no K z b2 b3) 100000 0 none rfl (Nat.zero_le _) (by omega) fun i p hp hk => ?_
  have hil : i < t.place.toList.length := by
    rw [Array.length_toList, R.np]
    exact (List.getElem?_eq_some_iff.mp hp).1
  have hj := List.getElem?_eq_getElem hil
  obtain ⟨c, hc, e⟩ := R.tb.before b2 (show (L.map fun p => thash P w p.2)[i]? = some (thash P w k) by rw [List.getElem?_map, hp, ← hk]; rfl) hj
  exact ⟨c, Nat.zero_le _, hc, by rw [hj, e]⟩
end
end S6
end
section
namespace S6
open PySem.Spec PyProof.Rows
section
variable {P : Program} {w : World} {A : Around} {E : Value → Shared → Prop} {s : Shared} {a : Addr} {L : LK} {es : Array (Int × Value)} {ep : Nat} {t : SetTable}
theorem Tb.of {h : Heap} (R : SetTR P w h a L es ep t) : Tb P w h a L es ep t := ⟨R.ob, R.rows, R.tab, R.nd, R.tup, R.plain, R.led, R.room, Nat.le_of_lt R.few⟩
theorem Tb.to {h : Heap} (R : Tb P w h a L es ep t) (hl : L.length < 64) : SetTR P w h a L es ep t := ⟨R.at_, R.rw_, R.tb, R.one, R.its, R.pl, R.ld, R.roomy, hl⟩
/-- what adding k at x leaves -/
abbrev AddK (P : Program) (w : World) (a x : Addr) (k : List Int) (L : LK) (h0 : Heap) (Q : Heap → Prop) : Prop := ∀ h' L' es' ep' t', Heap.SameBut a h0 h' → Tb P w h' a L' es' ep' t' → (k ∈ L.map (·.2) → L' = L) → (k ∉ L.map (·.2) → L'.Perm ((x, k) :: L)) → Q h'
/-- adding, where the table is at its widest -/
theorem add_wide (R : Tb P w s.heap a L es ep t) (hm : t.mask = 127) {x : Addr} {k : List Int} (hx : IsT P w s.heap k x) (hu : A.units < cLine) (hnew : k ∉ L.map (·.2) → L.length < 64) {Q : Bool → Shared → Prop}
    (hQ : ∀ b, AddK P w a x k L s.heap fun h' => Q b { s with heap := h' }) : wpAny (model P w) A (setAddHashed a (.ref x) (thash P w k)) Q E s := by
  obtain ⟨o, ho, hex, hd⟩ := R.at_
  unfold setAddHashed
  refine wpAny_holding ?_
  rw [show (100000 : Nat) = 99999 + 1 from rfl, setAddHashedIn_succ]
  refine wpAny_bind (wpAny_setState_of ho hd R.fit ?_)
  dsimp only
  refine wp_if_neg (by simp [byScan, Value.scannable]) ?_
  try refine wpAny_bind (wpAny_pure ?_)
  refine wpAny_bind (seek R hx hu (fun hin => wpAny_pure (hQ false s.heap L es ep t (Heap.SameBut.refl a s.heap) R (fun _ => rfl) fun z => absurd hin z)) fun K hno hK hb => ?_)
  have l1 := hnew hno
  dsimp only
  refine wpAny_bind (wpAny_setState_of ho hd R.fit ?_)
  dsimp only
  obtain ⟨q1, q2, q3, q4, q5, q6, _, _, q9⟩ := R.tb.put hK hb
  have hp1 : (t.put (way t.mask (thash P w k) K)).1.plain = true := q6.trans R.pl
  have tf : (t.put (way t.mask (thash P w k) K)).1.tooFull = false := by
    unfold SetTable.tooFull
    rw [q9, q4, hm, List.length_map]
    exact decide_eq_false (by omega)
  generalize t.put (way t.mask (thash P w k) K) = pt at q1 q3 q4 q5 q6 q9 hp1 tf ⊢
  obtain ⟨t1, pp⟩ := pt
  dsimp only at q1 q3 q4 q5 q6 q9 hp1 tf ⊢
  rw [q1]
  generalize SetTable.below t.place (way t.mask (thash P w k) K) = pl at q2 q3 ⊢
  first
    | (refine wpAny_bind ?_; refine wp_if_pos hp1 ?_; refine hashBy_tup hx ?_)
    | refine wp_if_pos hp1 (wpAny_bind (hashBy_tup hx ?_))
  simp only [if_true]
  have rows1 : (SetTable.insertAt es pl (thash P w k, Value.ref x)).toList = rowsOf P w (L.take pl ++ (x, k) :: L.drop pl) := by rw [SetTable.toList_insertAt, rows_put, R.rw_]
  have pm := put_perm L pl (x, k)
  have hlen : (L.take pl ++ (x, k) :: L.drop pl).length = L.length + 1 := pm.length_eq
  have tb1 : TabOk t1 ((L.take pl ++ (x, k) :: L.drop pl).map fun p => thash P w p.2) := by
    rw [List.map_append, List.map_cons, List.map_take, List.map_drop]
    exact q3
  generalize L.take pl ++ (x, k) :: L.drop pl = L1 at rows1 pm hlen tb1
  have hes : (SetTable.insertAt es pl (thash P w k, Value.ref x)).size = L.length + 1 := by
    have h := congrArg List.length rows1
    rw [Array.length_toList, rowsOf, List.length_map, hlen] at h
    exact h
  generalize SetTable.insertAt es pl (thash P w k, Value.ref x) = es1 at rows1 hes ⊢
  refine wpAny_bind (wpAny_storeSet_of ho hd ?_ (by rw [hes]; exact small (by omega)))
  have sb : Heap.SameBut a s.heap (s.heap.update a (Obj.putSet es1 t1)) := Heap.SameBut.update ..
  have fin : wpAny (model P w) A (pure true) Q E { s with heap := s.heap.update a (Obj.putSet es1 t1) } := by
    refine wpAny_pure (hQ true _ L1 es1 (ep + 1) t1 sb ⟨⟨_, store_at ho hd, ⟨hex.1, hex.2.1, hex.2.2⟩, rfl⟩, rows1, tb1, ?_, fun p hp => ?_, hp1, by rw [q5]; exact R.ld, by rw [hlen, q4, hm]; omega, by rw [hlen]; omega⟩ (fun z => absurd z hno) fun _ => pm)
    · refine (pm.map (·.2)).nodup_iff.mpr ?_
      rw [List.map_cons]
      exact List.nodup_cons.mpr ⟨hno, R.one⟩
    · rcases List.mem_cons.mp (pm.mem_iff.mp hp) with e | z
      · rw [e]; exact isT_same hx ho hd sb
      · exact isT_same (R.its p z) ho hd sb
  first
    | exact wp_if_neg (by simp [tf]) fin
    | (refine wpAny_bind ?_; refine wp_if_neg (by simp [tf]) ?_; exact wpAny_pure fin)
theorem add (R : Tb P w s.heap a L es ep t) {x : Addr} {k : List Int} (hx : IsT P w s.heap k x) (hu : A.units < cLine) (hnew : k ∉ L.map (·.2) → L.length < 64) {Q : Bool → Shared → Prop}
    (hQ : ∀ b, AddK P w a x k L s.heap fun h' => Q b { s with heap := h' }) : wpAny (model P w) A (setAddHashed a (.ref x) (thash P w k)) Q E s := by
  by_cases hl : L.length + 1 < 64
  · exact add_at (R.to (by omega)) hx hu hl fun b h' L' es' ep' t' sb R' c1 c2 => hQ b h' L' es' ep' t' sb (.of R') c1 c2
  · have hm : t.mask = 127 := by
      have h1 := R.roomy
      rcases R.tb.mok with e | e | e
      · omega
      · omega
      · exact e
    exact add_wide R hm hx hu hnew hQ
theorem Tb.stay {h h' : Heap} (R : Tb P w h a L es ep t) (ha : ∀ o, h.get? a = some o → h'.get? a = some o) (ht : ∀ p ∈ L, IsT P w h' p.2 p.1) : Tb P w h' a L es ep t := by
  obtain ⟨o, ho, r⟩ := R.at_
  exact ⟨⟨o, ha o ho, r⟩, R.rw_, R.tb, R.one, ht, R.pl, R.ld, R.roomy, R.most⟩
/-- the loop of set.update over such tuples -/
theorem loop {I : Addr} {fp wr : List Addr} {G : Array GenState → Array GenState → Prop} {n : Nat} {Pv : Nat → Value → Prop} {St : Nat → Shared → Prop} {R : Result → Shared → Prop}
    (W : WalksS P w A.in1 I fp wr G n Pv St) (S : Addr) (hSf : S ∉ fp) (ks : LK) (hn : n = ks.length) (hval : ∀ i v, Pv i v → ∃ p, ks[i]? = some p ∧ v = .ref p.1) (U : List (List Int)) (hU : U.length ≤ 64) (hks : ∀ p ∈ ks, p.2 ∈ U)
    (h0 : Heap) (hk : ∀ p ∈ ks, IsT P w h0 p.2 p.1) (hS0 : h0.get? S = none) (hw0 : ∀ b ∈ wr, h0.get? b = none) (hu : A.in1.units < cLine) (k : Nat) :
    ∀ (i : Nat) (s : Shared), n - i = k → i ≤ n → St i s → (∀ b o, h0.get? b = some o → s.heap.get? b = some o) → (∃ L es ep t, Tb P w s.heap S L es ep t ∧ ∀ p ∈ L, p ∈ ks) →
      (∀ s' L es ep t, Moved (S :: wr) G s s' → Tb P w s'.heap S L es ep t → (∀ p ∈ L, p ∈ ks) → (∀ b o, h0.get? b = some o → s'.heap.get? b = some o) → R (.ok (.ret .none)) s') →
      codeAny (model P w) A (.builtin "set.update.loop" ⟨[.ref S, .ref I], []⟩) R s := by
  have hSw : S ∉ wr := fun h => hSf (W.sub _ h)
  have up : ∀ b ∈ wr, b ∈ S :: wr := fun b hb => .tail _ hb
  have still : ∀ {s s' : Shared}, Moved wr G s s' → (∀ b o, h0.get? b = some o → s.heap.get? b = some o) → ∀ b o, h0.get? b = some o → s'.heap.get? b = some o := fun hm hkp b o e =>
    hm.heap b o (fun hb => by rw [hw0 b hb] at e; cases e) (hkp b o e)
  induction k with
  | zero =>
    intro i s hz hi hst hkp ⟨L, es, ep, t, T, sub⟩ hR
    obtain rfl : i = n := by omega
    refine codeAny_builtin PyProof.Rows.F.entry_set_update_loop ?_
    rw [Around.under_plainId PyProof.Rows.F.plain_set_update_loop _]
    show wpAny _ A.in1 (pyNext (.ref I) >>= _) _ _ s
    refine wpAny_bind (W.done s _ _ hst fun s' hm => wpAny_pure (hR s' L es ep t (hm.mono up) (T.stay (fun o e => hm.heap S o hSw e) fun p hp => isT_keep (hk p (sub p hp)) (still hm hkp)) sub (still hm hkp)))
  | succ k ih =>
    intro i s hz hi hst hkp ⟨L, es, ep, t, T, sub⟩ hR
    have hlt : i < n := by omega
    refine codeAny_builtin PyProof.Rows.F.entry_set_update_loop ?_
    rw [Around.under_plainId PyProof.Rows.F.plain_set_update_loop _]
    show wpAny _ A.in1 (pyNext (.ref I) >>= _) _ _ s
    refine wpAny_bind (W.item i s _ _ hlt hst fun v s' hP hst' hm => ?_)
    obtain ⟨p, hp, rfl⟩ := hval i v hP
    have pm : p ∈ ks := List.mem_of_getElem? hp
    have hkp' := still hm hkp
    have T' : Tb P w s'.heap S L es ep t := T.stay (fun o e => hm.heap S o hSw e) fun q hq => isT_keep (hk q (sub q hq)) hkp'
    have hx : IsT P w s'.heap p.2 p.1 := isT_keep (hk p pm) hkp'
    show wpAny _ A.in1 (holding [Value.ref p.1] (setAdd S (.ref p.1)) >>= _) _ _ s'
    refine wpAny_bind (wpAny_holding ?_)
    unfold setAdd
    refine wpAny_holding (wpAny_bind (wpAny_pyHash_tuple hu hx ?_))
    refine add (s := { s' with toks := s'.toks + (p.2.length + 1) }) T' hx hu (fun hno => ?_) fun b h' L' es' ep' t' sb T2 c1 c2 => ?_
    · have z := few_of (p.2 :: L.map (·.2)) U (List.nodup_cons.mpr ⟨hno, T.one⟩) fun y hy => by
        rcases List.mem_cons.mp hy with e | hy
        · rw [e]; exact hks p pm
        · obtain ⟨q, hq, rfl⟩ := List.mem_map.mp hy
          exact hks q (sub q hq)
      rw [List.length_cons, List.length_map] at z
      omega
    · have sub' : ∀ q ∈ L', q ∈ ks := fun q hq => by
        rcases Classical.em (p.2 ∈ L.map (·.2)) with c | c
        · rw [c1 c] at hq; exact sub q hq
        · rcases List.mem_cons.mp ((c2 c).mem_iff.mp hq) with e | hq
          · rw [e]; exact pm
          · exact sub q hq
      have hkp2 : ∀ b o, h0.get? b = some o → h'.get? b = some o := fun b o e => (sb.2 b (fun z => by rw [z, hS0] at e; cases e)).trans (hkp' b o e)
      refine wpAny_pure ⟨plainId_quiet PyProof.Rows.F.plain_set_update_loop _, ih (i + 1) _ (by omega) hlt (W.frame _ s' _ _ hst' (Nat.le_add_right _ _) fun b hb o e => ?_) hkp2 ⟨L', es', ep', t', T2, sub'⟩ fun s'' L2 es2 ep2 t2 hm'' T3 sub3 hkp3 => ?_⟩
      · exact (sb.2 b fun z => hSf (z ▸ hb)).trans e
      · refine hR s'' L2 es2 ep2 t2 (Moved.trans W.gtrans ((hm.mono up).then_heap (Nat.le_add_right _ _) fun b o hb e => ?_) hm'') T3 sub3 hkp3
        exact (sb.2 b fun z => hb (by rw [z]; exact List.mem_cons_self)).trans e
end
end S6
end
section
namespace S6
open PySem.Spec PyProof.Rows
section
variable {P : Program} {w : World} {A : Around} {E : Value → Shared → Prop} {s : Shared}
/-- a set without elements, as set.__new__ lays it -/
abbrev bare (w : World) : Obj := { cls := .type "set", dict := none, data := .set #[] 0 (.fresh 0 0 (!w.params.followText "set-order")) }
theorem tb_bare {h : Heap} {a : Addr} (ho : h.get? a = some (bare w)) : Tb P w h a [] #[] 0 (.fresh 0 0 (!w.params.followText "set-order")) := .of (setTR_fresh ho)
/-- what set(xs) leaves -/
abbrev SetEnd (P : Program) (w : World) (S : Addr) (ks : LK) (h0 h' : Heap) : Prop := (∃ L es ep t, Tb P w h' S L es ep t ∧ ∀ p ∈ L, p ∈ ks) ∧ ∀ b o, h0.get? b = some o → h'.get? b = some o
theorem fill {l : Addr} {items : Array Value} {Qf : Shared → Prop} (ks : LK) (hh : A.handled = none) (hl : s.heap.IsList l items) (hit : items.toList = ks.map fun p => Value.ref p.1)
    (hk : ∀ p ∈ ks, IsT P w s.heap p.2 p.1) (U : List (List Int)) (hU : U.length ≤ 64) (hks : ∀ p ∈ ks, p.2 ∈ U) (hu : A.units + 3 < cLine)
    (hQ : ∀ (h' : Heap) (tk : Nat), SetEnd P w s.heap.objs.size ks s.heap h' → Qf { s with heap := h', toks := tk }) :
    wpAny (model P w) A.in1.in1 (Builtin.«set.__init__» ⟨[.ref s.heap.objs.size, .ref l], []⟩)
      (fun fin s' => match fin with
        | .done f => wants (fun r s₂ => r = .none ∧ Qf s₂) E (.ok f) s'
        | .again c' => c'.quiet = true ∧ codeAny (model P w) A.in1 c' (wants (fun r s₂ => r = .none ∧ Qf s₂) E) s')
      (fun e s' => wants (fun r s₂ => r = .none ∧ Qf s₂) E (.error e) s') { s with heap := s.heap.push (bare w) } := by
  have hisz : items.size = ks.length := by
    have q := congrArg List.length hit
    simpa using q
  obtain ⟨⟨ocls, odict, odata, oslots⟩, hol, hcl, nl, hdl⟩ := hl
  simp only at hcl hdl
  subst hcl hdl
  have hol' : (s.heap.push (bare w)).get? l = some { cls := .type "list", dict := odict, data := .seq items nl, slots := oslots } := Heap.get?_push_of_some _ hol
  have hsls := F.sub_list_set
  have hslf := F.sub_list_frozenset
  have hne : (Value.type "list" == Value.type "dict") = false := by decide
  have hl1 : (s.heap.push (bare w)).IsList l items := ⟨_, hol', rfl, nl, rfl⟩
  unfold Builtin.«set.__init__» noKeywords Builtin.Frozenset.updateFrom
  generalize hPI : pyIter = PI
  wp_walk
  subst hPI
  refine wpAny_pyIter_list hl1 (wpAny_bind (wpAny_runValue ?_))
  have hlS : l < s.heap.objs.size := Heap.lt_size hol
  have fresh : ∀ b, s.heap.objs.size ≤ b → s.heap.get? b = none := fun b hb => by
    cases q : s.heap.get? b with
    | none => rfl
    | some o => exact absurd (Nat.lt_of_lt_of_le (Heap.lt_size q) hb) (Nat.lt_irrefl _)
  have z1 : (s.heap.push (bare w)).objs.size = s.heap.objs.size + 1 := Heap.size_push ..
  refine loop ((Walks.list (show A.in1.in1.in1.handled = none from hh) _ l (by rw [z1]; exact Nat.ne_of_lt (Nat.lt_succ_of_lt hlS)) items).toS) s.heap.objs.size
    (by rw [z1]; simp; exact Nat.ne_of_gt hlS) ks hisz (fun i v hv => ?_) U hU hks s.heap hk (fresh _ (Nat.le_refl _)) (fun b hb => fresh b ?_) (show A.in1.in1.in1.units < cLine by
      have e : A.in1.in1.in1.units = A.units + 3 := rfl
      omega) (items.size - 0) 0 _ (by omega) (Nat.zero_le _) ⟨⟨_, Heap.get?_push_size _ rfl, rfl, rfl⟩, hl1.push _⟩ (fun b o e => Heap.get?_push_of_some _ (Heap.get?_push_of_some _ e)) ?_ ?_
  · have q : items.toList[i]? = some v := by rw [Array.getElem?_toList]; exact hv
    rw [hit, List.getElem?_map] at q
    cases hq : ks[i]? with
    | none => rw [hq] at q; cases q
    | some p =>
      rw [hq] at q
      exact ⟨p, rfl, (Option.some.inj q).symm⟩
  · rw [List.mem_singleton.mp hb, z1]
    exact Nat.le_succ _
  · exact ⟨[], #[], 0, _, tb_bare (Heap.get?_push_of_some _ (Heap.get?_push_size _ rfl)), fun p hp => nomatch hp⟩
  · intro s' L es ep t hm hT sub hkp
    obtain ⟨h', g2, d', tk', os'⟩ := s'
    have eg : g2 = s.gens := hm.gens
    have ed : d' = s.drawn := hm.drawn
    have eo : os' = s.os := hm.os
    subst eg ed eo
    exact wpAny_pure (wpAny_pure ⟨rfl, hQ h' tk' ⟨⟨L, es, ep, t, hT, sub⟩, hkp⟩⟩)
/-- set(v), by what its __init__ does to a bare set -/
theorem made1 {v : Value} {Q : Value → Shared → Prop} (ct : checkTypeCall "set" ⟨[v], []⟩ = pure ())
    (ini : wpAny (model P w) A.in1.in1 (Builtin.«set.__init__» ⟨[.ref s.heap.objs.size, v], []⟩)
      (fun fin s' => match fin with
        | .done f => wants (fun r s₂ => r = .none ∧ Q (.ref s.heap.objs.size) s₂) E (.ok f) s'
        | .again c' => c'.quiet = true ∧ codeAny (model P w) A.in1 c' (wants (fun r s₂ => r = .none ∧ Q (.ref s.heap.objs.size) s₂) E) s')
      (fun e s' => wants (fun r s₂ => r = .none ∧ Q (.ref s.heap.objs.size) s₂) E (.error e) s') { s with heap := s.heap.push (bare w) }) :
    wpAny (model P w) A (call (.type "set") [v]) Q E s := by
  have C := F.called_set
  obtain ⟨_, _, m0⟩ := C.mro
  have m1 := C.made; have m2 := C.sub; have m3 := C.notType; have m4 := C.canCreate; have m5 := C.init.lookup; have m6 := C.init.bind (.ref s.heap.objs.size)
  have born : Shared.TypeIs { s with heap := s.heap.push (bare w) } (.ref s.heap.objs.size) "set" := ⟨_, Heap.get?_push_size _ rfl, rfl⟩
  have run := codeAny_call_builtin C.init.plain F.entry_set_init (check_set_init_1 born ini)
  refine wpAny_call (codeAny_of_tree (wpAny_pure ⟨Code.quiet_builtin _ (by decide +kernel), codeAny_builtin F.entry_type_call ?_⟩))
  rw [Around.under_plain (weight_type_call_type "set" [v] []) rfl]
  repeat (any_goals (first | assumption | wp_step))
  refine codeAny_mono (code_set_led1 v (E := E) (Q₁ := fun o s' => o = .ref s.heap.objs.size ∧ s' = { s with heap := s.heap.push (bare w) }) ⟨rfl, rfl⟩) fun r s' hr => ?_
  rcases r with e | (o | _ | _ | _) <;> first | exact hr | exact hr.elim | skip
  obtain ⟨rfl, rfl⟩ := hr
  repeat (any_goals (first | assumption | wp_step))
  refine codeAny_mono run fun r s' hr => ?_
  rcases r with e | (o | _ | _ | _) <;> first | exact hr | exact hr.elim | skip
  obtain ⟨rfl, hr⟩ := hr
  repeat (any_goals (first | assumption | wp_step))
theorem call_set {l : Addr} {items : Array Value} (ks : LK) {Q : Value → Shared → Prop} (hh : A.handled = none) (hl : s.heap.IsList l items) (hit : items.toList = ks.map fun p => Value.ref p.1)
    (hk : ∀ p ∈ ks, IsT P w s.heap p.2 p.1) (U : List (List Int)) (hU : U.length ≤ 64) (hks : ∀ p ∈ ks, p.2 ∈ U) (hu : A.units + 5 < cLine)
    (h : ∀ (h' : Heap) (tk : Nat), SetEnd P w s.heap.objs.size ks s.heap h' → Q (.ref s.heap.objs.size) { s with heap := h', toks := tk }) :
    wpAny (model P w) A (call (.type "set") [.ref l]) Q E s := made1 (F.typeCall_set_1 _) (fill ks hh hl hit hk U hU hks (by omega) h)
end
end S6
end
section
namespace S6
open PySem.Spec PyProof.Rows
section
variable {P : Program} {w : World} {A : Around} {E : Value → Shared → Prop} {s : Shared}
def encT (k : List Int) : PyData := .tuple (k.map .int)
theorem reads_ints {h : Heap} : ∀ {k : List Int} {vs : List Value}, ItemsAre (intKind P w) k vs → ReadsAll h vs (k.map .int) []
  | _, _, .nil => .nil
  | _, _, .cons h1 t => by
    obtain ⟨tk, rfl⟩ := Value.isInt_shape h1
    exact .cons (.int _ _) (reads_ints t)
theorem reads_isT {h : Heap} {k : List Int} {b : Addr} (x : IsT P w h k b) : Reads h (.ref b) (encT k) [] := by
  obtain ⟨o, items, n, ho, hc, hd, hi⟩ := x
  exact .tuple ho hc (by simpa using hd) (reads_ints hi)
theorem depth_encT (k : List Int) : (encT k).depth ≤ 1 := by
  unfold encT
  rw [PyData.depth, PySem.W.depth_ints]
  omega
/-- sorted(a set of such tuples) -/
theorem sorted_set {a : Addr} {L : LK} {es : Array (Int × Value)} {ep : Nat} {t : SetTable} {Q : Value → Shared → Prop} (R : Tb P w s.heap a L es ep t) (hh : A.handled = none) (hne : ∀ p ∈ L, p.2 ≠ []) (hu : A.units + 20 < cLine)
    (hQ : ∀ s' p (out : Array Value) (c : Nat) (L' : LK), (∀ b o, s.heap.get? b = some o → s'.heap.get? b = some o) → s'.gens = s.gens → s'.os = s.os → s.heap.objs.size ≤ p →
      s'.heap.get? p = some (seqObj "list" out c) → out.toList = L'.map (fun q => Value.ref q.1) → (∀ q ∈ L', q ∈ L) → L'.length = L.length → Q (.ref p) s') :
    wpAny (model P w) A (call (.builtin "sorted") [.ref a]) Q E s := by
  obtain ⟨o, ho, hex, hd⟩ := R.at_
  have hn := R.n
  have hmost := R.most
  refine Calls.call_function_entry PyProof.Rows.kind_sorted PyProof.Rows.plain_sorted PyProof.Rows.entry_sorted (PyProof.Rows.args_sorted1 _) ?_
  unfold Builtin.«sorted»
  refine wpAny_bind (m := checkCount "sorted" 1 1 _) (wpAny_pure ?_)
  refine wpAny_bind (collect_set (A := A.in1) hh ⟨o, ho, hex.1, hd⟩ R.fit (by unfold scanBound; omega) R.tb.ris R.ld fun s1 vs k1 hz g1 o1 pm => ?_)
  have hes : es.toList.map (·.2) = L.map fun q => Value.ref q.1 := by
    rw [R.rw_]
    unfold rowsOf
    rw [List.map_map]
    rfl
  rw [hes] at pm
  have back : ∀ vs : List Value, (∀ v ∈ vs, ∃ q ∈ L, v = Value.ref q.1) → ∃ L1 : LK, vs = L1.map (fun q => Value.ref q.1) ∧ ∀ q ∈ L1, q ∈ L := fun vs => by
    induction vs with
    | nil => exact fun _ => ⟨[], rfl, fun q hq => nomatch hq⟩
    | cons v vs ih =>
      intro hv
      obtain ⟨q, hq, e⟩ := hv v List.mem_cons_self
      obtain ⟨L1, e1, hs⟩ := ih fun u hu => hv u (.tail _ hu)
      refine ⟨q :: L1, by rw [List.map_cons, e, e1], fun r hr => ?_⟩
      rcases List.mem_cons.mp hr with z | z
      · rw [z]; exact hq
      · exact hs r z
  obtain ⟨L1, e1, s1sub⟩ := back vs fun v hv => by
    obtain ⟨q, hq, e⟩ := List.mem_map.mp (pm.mem_iff.mp hv)
    exact ⟨q, hq, e.symm⟩
  have len1 : L1.length = L.length := by
    have z := pm.length_eq
    rw [e1] at z
    simpa using z
  subst e1
  refine wpAny_bind (wpAny_newList ?_ (by rw [List.length_map]; exact small (by omega)))
  have hoL : (s1.heap.push (seqObj "list" (L1.map fun q => Value.ref q.1).toArray 0)).get? s1.heap.objs.size = some (seqObj "list" (L1.map fun q => Value.ref q.1).toArray 0) := Heap.get?_push_size _ rfl
  have each : ∀ l : LK, (∀ q ∈ l, q ∈ L) → PySem.W.EachIs (fun (v : Value) (q : Addr × List Int) => v = Value.ref q.1 ∧ q ∈ L) (l.map fun q => Value.ref q.1) l := fun l => by
    induction l with
    | nil => exact fun _ => .nil
    | cons q l ih => exact fun h => .cons ⟨rfl, h q List.mem_cons_self⟩ (ih fun r hr => h r (.tail _ hr))
  have er : PySem.W.EachIs (fun (v : Value) (q : Addr × List Int) => ∃ as, Reads (s1.heap.push (seqObj "list" (L1.map fun q => Value.ref q.1).toArray 0)) v (encT q.2) as ∧ s1.heap.objs.size ∉ as) (L1.map fun q => Value.ref q.1) L1 :=
    (each L1 s1sub).mono fun v q ⟨e, hq⟩ => ⟨[], by rw [e]; exact reads_isT (P := P) (w := w) (isT_keep (R.its q hq) fun b u e => Heap.get?_push_of_some _ (k1 b u e)), by simp⟩
  refine wpAny_bind (wpAny_holding (PySem.W.list_sort_data (s := { s1 with heap := s1.heap.push (seqObj "list" (L1.map fun q => Value.ref q.1).toArray 0) }) (enc := fun q : Addr × List Int => encT q.2) hoL (each L1 s1sub) er
    (PySem.W.AllAlike.of fun b b' => by show PySem.W.alike (.tuple _) (.tuple _) = true; rw [PySem.W.alike]; exact PySem.W.alike_ints _ _) (.inl fun d hd => ?_) (small (by omega)) (fun b hb => ?_) fun out hl heach => ?_))
  · obtain ⟨q, hq, rfl⟩ := List.mem_map.mp hd
    have z := hne q (s1sub q hq)
    cases e : q.2 with
    | nil => exact absurd e z
    | cons x r => exact ⟨.int x, r.map .int, rfl⟩
  · have z := depth_encT b.2
    show A.in1.units + 1 + (encT b.2).depth < cLine
    have e : A.in1.units = A.units + 1 := rfl
    omega
  · obtain ⟨c, hc⟩ := sortedHeap_at (vs := L1.map fun q => Value.ref q.1) (out := out.toArray) hoL
    have outs : ∀ (o : List Value) (b : LK), PySem.W.EachIs (fun (v : Value) (q : Addr × List Int) => v = Value.ref q.1 ∧ q ∈ L) o b → o = b.map (fun q => Value.ref q.1) ∧ ∀ q ∈ b, q ∈ L := fun o b h => by
      induction h with
      | nil => exact ⟨rfl, fun q hq => nomatch hq⟩
      | cons h1 _ ih => exact ⟨by rw [List.map_cons, h1.1, ih.1], fun q hq => by
          rcases List.mem_cons.mp hq with z | z
          · rw [z]; exact h1.2
          · exact ih.2 q z⟩
    obtain ⟨eo, so⟩ := outs _ _ heach
    refine wpAny_pure ⟨_, rfl, hQ _ s1.heap.objs.size out.toArray c _ (fun b u e => ?_) g1 o1 hz hc (by simpa using eo) so ?_⟩
    · have q := k1 b u e
      have hlt := Heap.lt_size q
      show (sortedHeap (s1.heap.push (seqObj "list" (L1.map fun q => Value.ref q.1).toArray 0)) s1.heap.objs.size (L1.map fun q => Value.ref q.1) out.toArray).get? b = some u
      rw [sortedHeap_old (Nat.ne_of_lt hlt) (by rw [size_push']; exact Nat.lt_succ_of_lt hlt)]
      exact Heap.get?_push_of_some _ q
    · rw [List.length_mergeSort, len1]
end
/-! readings -/
structure Tz (P : Program) (w : World) (h : Heap) (a : Addr) (L : LK) : Prop where
  ex : ∃ (es : Array (Int × Value)) (ep : Nat) (t : SetTable), (∃ o, h.get? a = some o ∧ o.ExactSet ∧ o.data = .set es ep t) ∧ es.toList = rowsOf P w L ∧ TabOk t (L.map fun p => thash P w p.2) ∧ (L.map (·.2)).Nodup ∧ t.plain = true ∧
    (w.params.followText "set-order" = true ∨ t.led = true) ∧ L.length * 5 < t.mask * 3 ∧ L.length ≤ 64
def SetO (P : Program) (w : World) (a : Addr) (L : LK) : HO := .ext fun h => Tz P w h a L
def rSet6 (K : PySem.W.Frag) (P : Program) (w : World) (U : List (List Int)) : List V → Hp → VK → Prop := fun xs H Q => ∃ (l : Addr) (ks : LK), xs = [V.ref l] ∧ SqL K H l (ks.map fun p => V.ref p.1) ∧ (∀ p ∈ ks, SqT K H p.1 (p.2.map V.int) ∧ p.2 ∈ U) ∧ U.length ≤ 64 ∧
  ∀ a L, H a = none → (∀ p ∈ L, p ∈ ks) → L.length ≤ 64 → Q (.ref a) (upd H a (SetO P w a L))
theorem cr_set6 {X : Cx} {U : List (List Int)} (hc : X.calm = true) (hu : X.A.units + 64 < cLine) : CallR X (.type "set") (rSet6 X.K X.prog X.w U) := by
  intro pins s σ H xs us Q I r h
  obtain ⟨l, ks, rfl, hl, hk, hU, q⟩ := h
  rw [Vals.ref1 r]
  obtain ⟨its, rv, pl, hz⟩ := I.list hl
  refine call_set (P := X.prog) (w := X.w) ks (I.ok.hd hc) pl.isList (by simpa using refs_of_vals rv) (fun p hp => I.isT (hk p hp).1) U hU (fun p hp => (hk p hp).2) (by omega) fun h' tk ⟨⟨L, es, ep, t, T, sub⟩, k⟩ => ?_
  have ob : ObjOk X.prog X.w (upd H s.heap.objs.size (SetO X.prog X.w s.heap.objs.size L)) h' s.heap.objs.size (SetO X.prog X.w s.heap.objs.size L) := by
    obtain ⟨o, ho, r⟩ := T.at_
    exact ⟨⟨es, ep, t, ⟨o, ho, r⟩, T.rw_, T.tb, T.one, T.pl, T.ld, T.roomy, T.most⟩, ⟨o, ho⟩, fun h1 h2 ⟨es', ep', t', ⟨o', ho', r'⟩, q'⟩ k => ⟨es', ep', t', ⟨o', k o' ho', r'⟩, q'⟩⟩
  exact ⟨.ref s.heap.objs.size, _, I.laid (t' := tk) k (Nat.le_refl _) ob, rfl, q _ L (I.hok.fresh (Nat.le_refl _)) sub T.most⟩
def rSorted6 (K : PySem.W.Frag) (P : Program) (w : World) : List V → Hp → VK → Prop := fun vs H Q => ∃ (a : Addr) (L : LK), vs = [V.ref a] ∧ H a = some (SetO P w a L) ∧ (∀ p ∈ L, SqT K H p.1 (p.2.map V.int) ∧ p.2 ≠ []) ∧
  ∀ (L' : LK) (p : Addr), (∀ q ∈ L', q ∈ L) → L'.length = L.length → H p = none → Q (.ref p) (upd H p (.lst (L'.map fun q => V.ref q.1)))
theorem cr_sorted6 {X : Cx} (hc : X.calm = true) (hu : X.A.units + 64 < cLine) : CallR X (.builtin "sorted") (rSorted6 X.K X.prog X.w) := by
  intro pins s σ H vs us Q I r h
  obtain ⟨a, L, rfl, ha, hk, q⟩ := h
  obtain ⟨es, ep, t, h1, h2, h3, h4, h5, h6, h7, h8⟩ : Tz X.prog X.w s.heap a L := (I.hok a _ ha).1
  have T : Tb X.prog X.w s.heap a L es ep t := ⟨h1, h2, h3, h4, fun p hp => I.isT (hk p hp).1, h5, h6, h7, h8⟩
  rw [Vals.ref1 r]
  refine sorted_set T (I.ok.hd hc) (fun p hp => (hk p hp).2) (by omega) fun s' p out c L' k g o hp hg hout sub len => ?_
  have hn : H p = none := I.hok.fresh hp
  have hv : Vals (L'.map fun q => V.ref q.1) out.toList := by rw [hout]; exact vals_of_refs L'
  have J : Inv X pins σ (upd H p (.lst (L'.map fun q => V.ref q.1))) { s with heap := s'.heap, gens := s'.gens, drawn := s'.drawn, toks := s'.toks } :=
    I.call (ch := []) (Un.laid k hp hn) (I.hok.laid k hp ⟨by rw [List.length_map, len]; exact small (by omega), out.toList, c, hv, hg⟩) (by rw [g]; exact I.bare) (fun _ z => nomatch z)
  have e : s' = { s with heap := s'.heap, gens := s'.gens, drawn := s'.drawn, toks := s'.toks } := by
    cases s'
    cases s
    cases o
    rfl
  rw [e]
  exact ⟨.ref p, _, J, rfl, q L' p sub len hn⟩
end S6
end
section
/-! ### set(a text), sorted -/
namespace S7
open PySem.Spec PyProof.Rows
abbrev sg (c : Nat) : Str := ⟨#[c]⟩
def cpOf (e : Int × Value) : Nat := match e.2 with | .str z _ => z.cps.getD 0 0 | _ => 0
def Ent (w : World) (e : Int × Value) : Prop := ∃ c tk, e = (hashStr w (sg c), .str (sg c) tk)
/-- at a: the set of the signs l -/
def Sx (w : World) (h : Heap) (a : Addr) (l : List Nat) : Prop :=
  ∃ o es ep t, h.get? a = some o ∧ o.ExactSet ∧ o.data = .set es ep t ∧ (∀ e ∈ es.toList, Ent w e) ∧ l.Perm (es.toList.map cpOf) ∧ es.size < scanBound ∧ t.fits es.size = true ∧ Ris t.place.toList ∧ (w.params.followText "set-order" = true ∨ t.led = true)
section
variable {P : Program} {w : World} {A : Around} {E : Value → Shared → Prop} {s : Shared} {a : Addr} {l : List Nat}
theorem is_sg (c : Nat) (tk : Tok) : (PySem.strKind P w).is (sg c) (.str (sg c) tk) = true := by
  show Value.isStrOf (sg c) (.str (sg c) tk) = true
  simp [Value.isStrOf]
theorem sg_inj {c d : Nat} (h : sg c = sg d) : c = d := by
  have z := congrArg Str.cps h
  simpa using z
theorem is_iff {e : Int × Value} (g : Ent w e) (c : Nat) : (PySem.strKind P w).is (sg c) e.2 = true ↔ cpOf e = c := by
  obtain ⟨d, tk, rfl⟩ := g
  show Value.isStrOf (sg c) (.str (sg d) tk) = true ↔ d = c
  unfold Value.isStrOf
  rw [beq_iff_eq]
  exact ⟨fun h => sg_inj h, fun h => by rw [h]⟩
theorem els {es : List (Int × Value)} (g : ∀ e ∈ es, Ent w e) : ElemsOf (PySem.strKind P w) es := fun e he => by
  obtain ⟨c, tk, rfl⟩ := g e he
  exact ⟨⟨sg c, is_sg c tk, rfl⟩, rfl⟩
theorem Sx.up {h h' : Heap} (R : Sx w h a l) (k : ∀ o, h.get? a = some o → h'.get? a = some o) : Sx w h' a l := by
  obtain ⟨o, es, ep, t, ho, r⟩ := R
  exact ⟨o, es, ep, t, k o ho, r⟩
theorem stored {g : Bool → Sem Unit} (hg : ∀ (b : Bool) (s₁ : Shared) (Q' : Unit → Shared → Prop), Q' () s₁ → wpAny (model P w) A (g b) Q' E s₁)
    {o : Obj} {es : Array (Int × Value)} {ep : Nat} {t : SetTable} (ho : s.heap.get? a = some o) (hex : o.ExactSet) (hd : o.data = .set es ep t)
    {es1 : Array (Int × Value)} {t2 : SetTable} (g1 : ∀ e ∈ es1.toList, Ent w e) (p1 : l.Perm (es1.toList.map cpOf)) (hb1 : es1.size < scanBound) (hf2 : t2.fits es1.size = true) (hr : Ris t2.place.toList)
    (hl : w.params.followText "set-order" = true ∨ t2.led = true) {wasDummy : Bool} {R : Option Bool → Shared → Prop} (hR : ∀ h', Heap.SameBut a s.heap h' → Sx w h' a l → R (some true) { s with heap := h' }) :
    wpAny (model P w) A (do
        storeSet a es1 t2
        if (!wasDummy && t2.tooFull) = true then do
            g (relayAll t2 es1 (SetTable.grown es1.size)).2.2
            storeSet a (relayAll t2 es1 (SetTable.grown es1.size)).1 (relayAll t2 es1 (SetTable.grown es1.size)).2.1
            pure (some true)
          else pure (some true)) R E s := by
  refine wpAny_bind (wpAny_storeSet_of ho hd ?_ (fits_of_scanBound hb1))
  have o1 := store_at (es' := es1) (t' := t2) ho hd
  have b1 := Heap.SameBut.update s.heap a (Obj.putSet es1 t2)
  split
  · have pm := relayAll_perm t2 es1 (SetTable.grown es1.size)
    have f3 := relayAll_fits t2 es1 (SetTable.grown es1.size)
    have r3 := relayAll_ris t2 es1 (SetTable.grown es1.size)
    have l3 := relayAll_led t2 es1 (SetTable.grown es1.size)
    generalize relayAll t2 es1 (SetTable.grown es1.size) = Z at pm f3 r3 l3 ⊢
    obtain ⟨es2, t3, gave⟩ := Z
    dsimp only at pm f3 r3 l3 ⊢
    have z : es2.size < scanBound := by
      have q := pm.length_eq
      rw [Array.length_toList, Array.length_toList] at q
      omega
    refine wpAny_bind (hg _ _ _ (wpAny_bind (wpAny_storeSet_of o1 rfl ?_ (fits_of_scanBound z))))
    refine wpAny_pure (hR _ (b1.trans (Heap.SameBut.update _ a _)) ⟨_, es2, _, t3, store_at o1 rfl, hex, rfl, fun e he => g1 e (pm.mem_iff.mp he), p1.trans (pm.map cpOf).symm, z, f3, r3, hl.imp id fun q => by rw [l3]; exact q⟩)
  · exact wpAny_pure (hR _ b1 ⟨_, es1, _, t2, o1, hex, rfl, g1, p1, hb1, hf2, hr, hl⟩)
theorem add {c : Nat} {tk : Tok} {Q : Bool → Shared → Prop} (R : Sx w s.heap a l) (room : l.length + 1 < scanBound)
    (hQ : ∀ b h', Heap.SameBut a s.heap h' → Sx w h' a (if c ∈ l then l else c :: l) → Q b { s with heap := h' }) :
    wpAny (model P w) A (setAddHashed a (.str (sg c) tk) ((PySem.strKind P w).hash (sg c))) Q E s := by
  obtain ⟨o, es, ep, t, ho, hex, hd, g, pm0, hb, hf, hr, hl⟩ := R
  have hkey := is_sg (P := P) (w := w) c tk
  have hsc : (Value.str (sg c) tk).scannable = true := rfl
  have hel := els (P := P) g
  have hlen : es.size = l.length := by
    have q := pm0.length_eq
    rw [List.length_map, Array.length_toList] at q
    exact q.symm
  unfold setAddHashed setAddHashedIn
  refine wpAny_holding (wpAny_bind (wpAny_setState_of ho hd hf ?_))
  dsimp only
  rw [byScan_of hsc hb hel]
  simp only [↓reduceIte]
  unfold setAddByScan
  refine wpAny_bind (wpAny_bind (wpAny_rule (wpAny_bind (wpAny_setScan_of hkey ho hd hf hel ?_))))
  cases hfi : List.findIdx? (fun e => (PySem.strKind P w).is (sg c) e.2) es.toList with
  | some j =>
    dsimp only
    obtain ⟨hj, pj, _⟩ := List.findIdx?_eq_some_iff_getElem.mp hfi
    have hin : c ∈ l := pm0.mem_iff.mpr (List.mem_map.mpr ⟨_, List.getElem_mem hj, (is_iff (g _ (List.getElem_mem hj)) c).mp pj⟩)
    have q := hQ false s.heap (Heap.SameBut.refl a s.heap)
    rw [if_pos hin] at q
    exact wpAny_pure (wpAny_pure (q ⟨o, es, ep, t, ho, hex, hd, g, pm0, hb, hf, hr, hl⟩))
  | none =>
    dsimp only
    have hout : c ∉ l := fun z => by
      obtain ⟨e, he, q⟩ := List.mem_map.mp (pm0.mem_iff.mp z)
      have y := List.findIdx?_eq_none_iff.mp hfi e he
      rw [(is_iff (g e he) c).mpr q] at y
      cases y
    have q0 : ∀ b h', Heap.SameBut a s.heap h' → Sx w h' a (c :: l) → Q b { s with heap := h' } := fun b h' sb r => hQ b h' sb (by rw [if_neg hout]; exact r)
    have hgw : ∀ (b : Bool) {s₁ : Shared} {Q' : Unit → Shared → Prop}, Q' () s₁ → wpAny (model P w) A (match b with | true => rule "set.scan.the-table-gave-way" | false => pure ()) Q' E s₁ := fun b s₁ Q' q => by
      cases b
      · exact wpAny_pure q
      · exact wpAny_rule q
    have pm := layNew_perm t es ((PySem.strKind P w).hash (sg c)) (.str (sg c) tk)
    have f1 := layNew_fits t es ((PySem.strKind P w).hash (sg c)) (.str (sg c) tk)
    have r1 := layNew_ris t es ((PySem.strKind P w).hash (sg c)) (.str (sg c) tk) hr
    have l1 := layNew_led t es ((PySem.strKind P w).hash (sg c)) (.str (sg c) tk)
    generalize layNew t es ((PySem.strKind P w).hash (sg c)) (.str (sg c) tk) = Z at pm f1 r1 l1 ⊢
    obtain ⟨es1, t1, wasDummy, gave⟩ := Z
    dsimp only at pm f1 r1 l1 ⊢
    rw [Array.toList_push] at pm
    have pc : es1.toList.Perm (((PySem.strKind P w).hash (sg c), Value.str (sg c) tk) :: es.toList) := pm.trans (List.perm_append_singleton _ _)
    have g1 : ∀ e ∈ es1.toList, Ent w e := fun e he => by
      rcases List.mem_cons.mp (pc.mem_iff.mp he) with z | z
      · exact ⟨c, tk, z⟩
      · exact g e z
    have p1 : (c :: l).Perm (es1.toList.map cpOf) := ((List.Perm.cons c pm0).trans (pc.map cpOf).symm)
    have b1 : es1.size < scanBound := by
      have q : l.length + 1 = es1.size := by
        have z := p1.length_eq
        rw [List.length_map] at z
        rw [← Array.length_toList, ← z]
        rfl
      omega
    have led1 : w.params.followText "set-order" = true ∨ t1.led = true := hl.imp id fun z => by rw [l1]; exact z
    refine wpAny_bind (hgw _ ?_)
    split
    · refine wpAny_bind ?_
      rw [hashByValue_scannable 8 hsc]
      refine wpAny_pure (stored ?_ ho hex hd g1 p1 b1 ?_ ?_ ?_ fun h' sb r => wpAny_pure (q0 true h' sb r))
      · intro b s₁ Q' q
        cases b
        · exact wpAny_pure q
        · exact wpAny_rule q
      · first | (split <;> first | exact f1 | exact SetTable.fits_plain_off f1) | exact f1 | exact SetTable.fits_plain_off f1
      · first | (split <;> exact r1) | exact r1
      · first | (split <;> exact led1) | exact led1
    · refine wpAny_bind (wpAny_pure ?_)
      simp only [↓reduceIte]
      refine stored ?_ ho hex hd g1 p1 b1 f1 r1 led1 fun h' sb r => wpAny_pure (q0 true h' sb r)
      intro b s₁ Q' q
      cases b
      · exact wpAny_pure q
      · exact wpAny_rule q
/-- the signs met -/
def met : List Nat → List Nat → List Nat
  | l, [] => l
  | l, c :: r => met (if c ∈ l then l else c :: l) r
theorem met_snoc (m : List Nat) : ∀ (l : List Nat) (c : Nat), met l (m ++ [c]) = if c ∈ met l m then met l m else c :: met l m := by
  induction m with
  | nil => exact fun l c => rfl
  | cons d m ih => exact fun l c => ih _ c
theorem met_mem (m : List Nat) : ∀ (l : List Nat) (c : Nat), c ∈ met l m ↔ c ∈ l ∨ c ∈ m := by
  induction m with
  | nil => exact fun l c => by simp [met]
  | cons d m ih =>
    intro l c
    unfold met
    rw [ih]
    split
    · rename_i h
      rw [List.mem_cons]
      exact ⟨fun z => z.elim .inl fun y => .inr (.inr y), fun z => z.elim .inl fun y => y.elim (fun e => .inl (e ▸ h)) .inr⟩
    · rw [List.mem_cons, List.mem_cons]
      exact ⟨fun z => z.elim (fun y => y.elim (fun e => .inr (.inl e)) .inl) fun y => .inr (.inr y), fun z => z.elim (fun y => .inl (.inr y)) fun y => y.elim (fun e => .inl (.inl e)) .inr⟩
theorem met_nodup (m : List Nat) : ∀ (l : List Nat), l.Nodup → (met l m).Nodup := by
  induction m with
  | nil => exact fun l h => h
  | cons d m ih =>
    intro l h
    unfold met
    refine ih _ ?_
    split
    · exact h
    · exact List.nodup_cons.mpr ⟨by assumption, h⟩
theorem met_len (m : List Nat) : ∀ (l : List Nat), (met l m).length ≤ l.length + m.length := by
  induction m with
  | nil => exact fun l => Nat.le_refl _
  | cons d m ih =>
    intro l
    have z := ih (if d ∈ l then l else d :: l)
    have y : (if d ∈ l then l else d :: l).length ≤ l.length + 1 := by
      split
      · exact Nat.le_succ _
      · exact Nat.le_refl _
    show (met (if d ∈ l then l else d :: l) m).length ≤ l.length + (m.length + 1)
    omega
end
end S7
end
section
namespace S7
open PySem.Spec PyProof.Rows
section
variable {P : Program} {w : World} {A : Around} {E : Value → Shared → Prop} {s : Shared}
theorem loop {I : Addr} {fp wr : List Addr} {G : Array GenState → Array GenState → Prop} {n : Nat} {Pv : Nat → Value → Prop} {St : Nat → Shared → Prop} {R : Result → Shared → Prop}
    (W : WalksS P w A.in1 I fp wr G n Pv St) (S : Addr) (hSf : S ∉ fp) (cs : List Nat) (hn : n = cs.length) (hval : ∀ i v, Pv i v → ∃ c tk, cs[i]? = some c ∧ v = .str (S7.sg c) tk) (hb : cs.length + 1 < scanBound)
    (h0 : Heap) (hS0 : h0.get? S = none) (hw0 : ∀ b ∈ wr, h0.get? b = none) (k : Nat) :
    ∀ (i : Nat) (s : Shared), n - i = k → i ≤ n → St i s → (∀ b o, h0.get? b = some o → s.heap.get? b = some o) → Sx w s.heap S (met [] (cs.take i)) →
      (∀ s', Moved (S :: wr) G s s' → Sx w s'.heap S (met [] cs) → (∀ b o, h0.get? b = some o → s'.heap.get? b = some o) → R (.ok (.ret .none)) s') →
      codeAny (model P w) A (.builtin "set.update.loop" ⟨[.ref S, .ref I], []⟩) R s := by
  have hSw : S ∉ wr := fun h => hSf (W.sub _ h)
  have up : ∀ b ∈ wr, b ∈ S :: wr := fun b hb => .tail _ hb
  have still : ∀ {s s' : Shared}, Moved wr G s s' → (∀ b o, h0.get? b = some o → s.heap.get? b = some o) → ∀ b o, h0.get? b = some o → s'.heap.get? b = some o := fun hm hkp b o e =>
    hm.heap b o (fun hb => by rw [hw0 b hb] at e; cases e) (hkp b o e)
  induction k with
  | zero =>
    intro i s hz hi hst hkp T hR
    obtain rfl : i = n := by omega
    rw [hn, List.take_length] at T
    refine codeAny_builtin PyProof.Rows.F.entry_set_update_loop ?_
    rw [Around.under_plainId PyProof.Rows.F.plain_set_update_loop _]
    show wpAny _ A.in1 (pyNext (.ref I) >>= _) _ _ s
    exact wpAny_bind (W.done s _ _ hst fun s' hm => wpAny_pure (hR s' (hm.mono up) (T.up fun o e => hm.heap S o hSw e) (still hm hkp)))
  | succ k ih =>
    intro i s hz hi hst hkp T hR
    have hlt : i < n := by omega
    refine codeAny_builtin PyProof.Rows.F.entry_set_update_loop ?_
    rw [Around.under_plainId PyProof.Rows.F.plain_set_update_loop _]
    show wpAny _ A.in1 (pyNext (.ref I) >>= _) _ _ s
    refine wpAny_bind (W.item i s _ _ hlt hst fun v s' hP hst' hm => ?_)
    obtain ⟨c, tk, hc, rfl⟩ := hval i v hP
    have hkp' := still hm hkp
    show wpAny _ A.in1 (holding [Value.str (sg c) tk] (setAdd S (.str (sg c) tk)) >>= _) _ _ s'
    refine wpAny_bind (wpAny_holding ?_)
    unfold setAdd
    refine wpAny_holding (wpAny_bind ((PySem.strKind P w).pyHash (is_sg c tk) ?_))
    have lb := met_len (cs.take i) []
    have ln : ([] : List Nat).length + (cs.take i).length ≤ i := by rw [List.length_nil, List.length_take]; omega
    refine add (s := { s' with toks := s'.toks + 1 }) (T.up fun o e => hm.heap S o hSw e) (by omega) fun b h' sb T2 => ?_
    rw [← met_snoc, ← show cs.take (i + 1) = cs.take i ++ [c] by rw [List.take_succ, hc]; rfl] at T2
    have hkp2 : ∀ b o, h0.get? b = some o → h'.get? b = some o := fun b o e => (sb.2 b (fun z => by rw [z, hS0] at e; cases e)).trans (hkp' b o e)
    refine wpAny_pure ⟨plainId_quiet PyProof.Rows.F.plain_set_update_loop _, ih (i + 1) _ (by omega) hlt (W.frame _ s' _ _ hst' (Nat.le_add_right _ _) fun b hb o e => ?_) hkp2 T2 fun s'' hm'' T3 hkp3 => ?_⟩
    · exact (sb.2 b fun z => hSf (z ▸ hb)).trans e
    · refine hR s'' (Moved.trans W.gtrans ((hm.mono up).then_heap (Nat.le_add_right _ _) fun b o hb e => ?_) hm'') T3 hkp3
      exact (sb.2 b fun z => hb (by rw [z]; exact List.mem_cons_self)).trans e
theorem walks {x : Str} {t : Tok} (hh : A.handled = none) (it : Addr) : Walks P w A it [it] [it] x.cps.size (SignAt x) (fun i h => h.IsStrIter it (strIterType x) x t i) := by
  unfold strIterType
  split
  · exact Walks.strAscii hh it x t
  · exact Walks.strWide hh it x t
theorem fill {x : Str} {t : Tok} {Qf : Shared → Prop} (hh : A.handled = none) (hb : x.cps.size + 1 < scanBound)
    (hQ : ∀ (h' : Heap) (tk : Nat), Sx w h' s.heap.objs.size (met [] x.cps.toList) → (∀ b o, s.heap.get? b = some o → h'.get? b = some o) → Qf { s with heap := h', toks := tk }) :
    wpAny (model P w) A.in1.in1 (Builtin.«set.__init__» ⟨[.ref s.heap.objs.size, .str x t], []⟩)
      (fun fin s' => match fin with
        | .done f => wants (fun r s₂ => r = .none ∧ Qf s₂) E (.ok f) s'
        | .again c' => c'.quiet = true ∧ codeAny (model P w) A.in1 c' (wants (fun r s₂ => r = .none ∧ Qf s₂) E) s')
      (fun e s' => wants (fun r s₂ => r = .none ∧ Qf s₂) E (.error e) s') { s with heap := s.heap.push (S6.bare w) } := by
  have hs1 : isSubtype (.type "str") (.type "set") = pure false := by
    rw [isSubtype_type]
    kernel_rfl
  have hs2 : isSubtype (.type "str") (.type "frozenset") = pure false := by
    rw [isSubtype_type]
    kernel_rfl
  have hne : (Value.type "str" == Value.type "dict") = false := by decide
  unfold Builtin.«set.__init__» noKeywords Builtin.Frozenset.updateFrom
  generalize hPI : pyIter = PI
  wp_walk
  all_goals subst hPI
  refine wpAny_pyIter_strU ?_
  refine wpAny_bind (wpAny_runValue ?_)
  have fresh : ∀ b, s.heap.objs.size ≤ b → s.heap.get? b = none := fun b hb => by
    cases q : s.heap.get? b with
    | none => rfl
    | some o => exact absurd (Nat.lt_of_lt_of_le (Heap.lt_size q) hb) (Nat.lt_irrefl _)
  have z1 : (s.heap.push (S6.bare w)).objs.size = s.heap.objs.size + 1 := Heap.size_push ..
  refine loop (walks (t := t) (show A.in1.in1.in1.handled = none from hh) _).toS s.heap.objs.size
    (by rw [z1]; simp) x.cps.toList (by simp) (fun i v hv => ?_) (by simpa using hb) s.heap (fresh _ (Nat.le_refl _)) (fun b hb => fresh b ?_)
    (x.cps.size - 0) 0 _ rfl (Nat.zero_le _) ⟨_, Heap.get?_push_size _ rfl, rfl, rfl⟩ (fun b o e => Heap.get?_push_of_some _ (Heap.get?_push_of_some _ e)) ?_ ?_
  · obtain ⟨c, u, hc, rfl⟩ := hv
    exact ⟨c, u, by rw [Array.getElem?_toList]; exact hc, rfl⟩
  · rw [List.mem_singleton.mp hb, z1]
    exact Nat.le_succ _
  · have ld : w.params.followText "set-order" = true ∨ (SetTable.fresh 0 0 (!w.params.followText "set-order")).led = true := by
      show _ ∨ (!w.params.followText "set-order") = true
      cases w.params.followText "set-order"
      · exact .inr rfl
      · exact .inl rfl
    have sb : (0 : Nat) < scanBound := by
      unfold scanBound
      omega
    exact ⟨_, #[], 0, _, Heap.get?_push_of_some _ (Heap.get?_push_size _ rfl), ⟨rfl, rfl, rfl⟩, rfl, (fun e he => by cases he), List.Perm.refl _, sb, rfl, List.Pairwise.nil, ld⟩
  · intro s' hm hT hkp
    obtain ⟨h', g2, d', tk', os'⟩ := s'
    have eg : g2 = s.gens := hm.gens
    have ed : d' = s.drawn := hm.drawn
    have eo : os' = s.os := hm.os
    subst eg ed eo
    exact wpAny_pure (wpAny_pure ⟨rfl, hQ h' tk' hT hkp⟩)
theorem call_set {x : Str} {t : Tok} {Q : Value → Shared → Prop} (hh : A.handled = none) (hb : x.cps.size + 1 < scanBound)
    (h : ∀ (h' : Heap) (tk : Nat), Sx w h' s.heap.objs.size (met [] x.cps.toList) → (∀ b o, s.heap.get? b = some o → h'.get? b = some o) → Q (.ref s.heap.objs.size) { s with heap := h', toks := tk }) :
    wpAny (model P w) A (call (.type "set") [.str x t]) Q E s := S6.made1 (F.typeCall_set_1 _) (fill hh hb h)
theorem le_sg : PySem.W.dataLe false (fun c => PyData.str (sg c)) = fun a b => decide (a ≤ b) := by
  funext a b
  show (!PySem.W.dataLt (.str (sg b)) (.str (sg a))) = _
  rw [PySem.W.dataLt_str]
  have e : (([b] : List Nat) < [a]) ↔ b < a := by
    constructor
    · intro h
      cases h with
      | rel h => exact h
      | cons h => cases h
    · exact fun h => .rel h
  by_cases h : a ≤ b
  · have h' : ¬ b < a := by omega
    rw [decide_eq_true h, decide_eq_false (fun z => h' (e.mp z))]
    rfl
  · have h' : b < a := by omega
    rw [decide_eq_false h, decide_eq_true (e.mpr h')]
    rfl
/-- the signs of a text, each once, ascending -/
def uniq (l : List Nat) : List Nat := (met [] l).mergeSort (fun a b => decide (a ≤ b))
theorem uniq_mem (l : List Nat) (c : Nat) : c ∈ uniq l ↔ c ∈ l := by
  unfold uniq
  rw [(List.mergeSort_perm _ _).mem_iff, met_mem]
  simp
theorem uniq_lt (l : List Nat) : (uniq l).Pairwise (· < ·) := by
  have p := List.pairwise_mergeSort (le := fun a b : Nat => decide (a ≤ b)) (fun a b c h1 h2 => by simp at h1 h2 ⊢; omega) (fun a b => by simp; omega) (met [] l)
  have n : (uniq l).Nodup := (List.mergeSort_perm _ _).nodup_iff.mpr (met_nodup l [] List.nodup_nil)
  refine (p.and n).imp fun h => ?_
  simp at h
  omega
theorem sorted_set {a : Addr} {l : List Nat} {Q : Value → Shared → Prop} (R : Sx w s.heap a (met [] l)) (hh : A.handled = none) (hu : A.units + 20 < cLine) (hlen : l.length ≤ 100000)
    (hQ : ∀ s' p (out : Array Value) (c : Nat), (∀ b o, s.heap.get? b = some o → s'.heap.get? b = some o) → s'.gens = s.gens → s'.os = s.os → s.heap.objs.size ≤ p →
      s'.heap.get? p = some (seqObj "list" out c) → Vals ((uniq l).map fun c => V.str (sg c)) out.toList → Q (.ref p) s') :
    wpAny (model P w) A (call (.builtin "sorted") [.ref a]) Q E s := by
  obtain ⟨o, es, ep, t, ho, hex, hd, g, pm0, hb, hf, hr, hl⟩ := R
  have ml := met_len l []
  refine Calls.call_function_entry PyProof.Rows.kind_sorted PyProof.Rows.plain_sorted PyProof.Rows.entry_sorted (PyProof.Rows.args_sorted1 _) ?_
  unfold Builtin.«sorted»
  refine wpAny_bind (m := checkCount "sorted" 1 1 _) (wpAny_pure ?_)
  refine wpAny_bind (collect_set (A := A.in1) hh ⟨o, ho, hex.1, hd⟩ hf hb hr hl fun s1 vs k1 hz g1 o1 pm => ?_)
  have back : ∀ vs : List Value, (∀ v ∈ vs, ∃ c tk, v = Value.str (sg c) tk) → ∃ L1 : List Nat, PySem.W.EachIs (fun (v : Value) (c : Nat) => ∃ tk, v = .str (sg c) tk) vs L1 ∧ L1 = vs.map fun v => cpOf (0, v) := fun vs => by
    induction vs with
    | nil => exact fun _ => ⟨[], .nil, rfl⟩
    | cons v vs ih =>
      intro hv
      obtain ⟨c, tk, rfl⟩ := hv v List.mem_cons_self
      obtain ⟨L1, e1, e2⟩ := ih fun u hu => hv u (.tail _ hu)
      exact ⟨c :: L1, .cons ⟨tk, rfl⟩ e1, by rw [List.map_cons, ← e2]; rfl⟩
  obtain ⟨L1, each, eL⟩ := back vs fun v hv => by
    obtain ⟨e, he, rfl⟩ := List.mem_map.mp (pm.mem_iff.mp hv)
    obtain ⟨c, tk, rfl⟩ := g e he
    exact ⟨c, tk, rfl⟩
  have pL : L1.Perm (met [] l) := by
    have z := pm.map fun v => cpOf (0, v)
    rw [List.map_map] at z
    rw [eL]
    exact z.trans pm0.symm
  have len1 : L1.length ≤ 100000 := by
    rw [pL.length_eq]
    simp at ml
    omega
  refine wpAny_bind (wpAny_newList ?_ (by rw [each.length]; exact small (by omega)))
  have hoL : (s1.heap.push (seqObj "list" vs.toArray 0)).get? s1.heap.objs.size = some (seqObj "list" vs.toArray 0) := Heap.get?_push_size _ rfl
  refine wpAny_bind (wpAny_holding (PySem.W.list_sort_data (s := { s1 with heap := s1.heap.push (seqObj "list" vs.toArray 0) }) (enc := fun c : Nat => PyData.str (sg c)) hoL each (each.mono fun v c ⟨tk, e⟩ => ⟨[], by rw [e]; exact .str _ _, by simp⟩)
    (PySem.W.AllAlike.of fun b b' => by rw [PySem.W.alike]) (.inr fun d hd => ?_) (small (by omega)) (fun b hb => ?_) fun out hl heach => ?_))
  · obtain ⟨q, hq, rfl⟩ := List.mem_map.mp hd
    exact ⟨fun z => PyData.noConfusion z, fun xs z => PyData.noConfusion z⟩
  · have z : (PyData.str (sg b)).depth = 0 := by rw [PyData.depth]
    show A.in1.units + 1 + (PyData.str (sg b)).depth < cLine
    have e : A.in1.units = A.units + 1 := rfl
    omega
  · obtain ⟨c, hc⟩ := sortedHeap_at (vs := vs) (out := out.toArray) hoL
    rw [le_sg] at heach
    have e : L1.mergeSort (fun a b => decide (a ≤ b)) = uniq l := by
      refine List.Perm.eq_of_pairwise (le := fun a b : Nat => a ≤ b) (fun a b _ _ h1 h2 => Nat.le_antisymm h1 h2) ?_ ?_ ((List.mergeSort_perm _ _).trans (pL.trans (List.mergeSort_perm _ _).symm))
      · refine (List.pairwise_mergeSort (le := fun a b : Nat => decide (a ≤ b)) (fun a b c h1 h2 => by simp at h1 h2 ⊢; omega) (fun a b => by simp; omega) L1).imp fun h => by simpa using h
      · exact (uniq_lt l).imp fun h => Nat.le_of_lt h
    rw [e] at heach
    have vals : ∀ (o : List Value) (b : List Nat), PySem.W.EachIs (fun (v : Value) (c : Nat) => ∃ tk, v = .str (sg c) tk) o b → Vals (b.map fun c => V.str (sg c)) o := fun o b h => by
      induction h with
      | nil => exact .nil
      | cons h1 _ ih =>
        obtain ⟨tk, rfl⟩ := h1
        exact .cons ⟨tk, rfl⟩ ih
    refine wpAny_pure ⟨_, rfl, hQ _ s1.heap.objs.size out.toArray c (fun b u e => ?_) g1 o1 hz hc (by simpa using vals _ _ heach)⟩
    have q := k1 b u e
    have hlt := Heap.lt_size q
    show (sortedHeap (s1.heap.push (seqObj "list" vs.toArray 0)) s1.heap.objs.size vs out.toArray).get? b = some u
    rw [sortedHeap_old (Nat.ne_of_lt hlt) (by rw [size_push']; exact Nat.lt_succ_of_lt hlt)]
    exact Heap.get?_push_of_some _ q
end
/-! readings -/
def SxO (w : World) (a : Addr) (l : List Nat) : HO := .ext fun h => Sx w h a l
def rSetS (w : World) : List V → Hp → VK → Prop := fun xs H Q => ∃ (x : Str), xs = [V.str x] ∧ x.cps.size ≤ 1000 ∧ ∀ a, H a = none → Q (.ref a) (upd H a (SxO w a (met [] x.cps.toList)))
theorem cr_setS {X : Cx} (hc : X.calm = true) : CallR X (.type "set") (rSetS X.w) := by
  intro pins s σ H xs us Q I r h
  obtain ⟨x, rfl, hl, q⟩ := h
  obtain ⟨u, rfl, t, rfl⟩ := vals1 r
  refine call_set (P := X.prog) (w := X.w) (I.ok.hd hc) (by unfold scanBound; omega) fun h' tk T k => ?_
  have ob : ObjOk X.prog X.w (upd H s.heap.objs.size (SxO X.w s.heap.objs.size (met [] x.cps.toList))) h' s.heap.objs.size (SxO X.w s.heap.objs.size (met [] x.cps.toList)) := by
    obtain ⟨o, es, ep, t', ho, r⟩ := T
    exact ⟨⟨o, es, ep, t', ho, r⟩, ⟨o, ho⟩, fun h1 h2 z k => Sx.up z k⟩
  exact ⟨.ref s.heap.objs.size, _, I.laid (t' := tk) k (Nat.le_refl _) ob, rfl, q _ (I.hok.fresh (Nat.le_refl _))⟩
def rSortedS (w : World) : List V → Hp → VK → Prop := fun vs H Q => ∃ (a : Addr) (l : List Nat), vs = [V.ref a] ∧ H a = some (SxO w a (met [] l)) ∧ l.length ≤ 1000 ∧ ∀ p, H p = none → Q (.ref p) (upd H p (.lst ((uniq l).map fun c => V.str (sg c))))
theorem cr_sortedS {X : Cx} (hc : X.calm = true) (hu : X.A.units + 64 < cLine) : CallR X (.builtin "sorted") (rSortedS X.w) := by
  intro pins s σ H vs us Q I r h
  obtain ⟨a, l, rfl, ha, hl, q⟩ := h
  have T : Sx X.w s.heap a (met [] l) := (I.hok a _ ha).1
  rw [Vals.ref1 r]
  refine sorted_set (P := X.prog) T (I.ok.hd hc) (by omega) (by omega) fun s' p out c k g o hp hg hv => ?_
  have hn : H p = none := I.hok.fresh hp
  have lu : (uniq l).length ≤ l.length := by
    have z := met_len l []
    unfold uniq
    rw [List.length_mergeSort]
    simpa using z
  have J : Inv X pins σ (upd H p (.lst ((uniq l).map fun c => V.str (sg c)))) { s with heap := s'.heap, gens := s'.gens, drawn := s'.drawn, toks := s'.toks } :=
    I.call (ch := []) (Un.laid k hp hn) (I.hok.laid k hp ⟨by rw [List.length_map]; exact small (by omega), out.toList, c, hv, hg⟩) (by rw [g]; exact I.bare) (fun _ z => nomatch z)
  have e : s' = { s with heap := s'.heap, gens := s'.gens, drawn := s'.drawn, toks := s'.toks } := by
    cases s'
    cases s
    cases o
    rfl
  rw [e]
  exact ⟨.ref p, _, J, rfl, q p hn⟩
end S7
end
section
/-! ### sorted(set(a tuple of ints)) -/
namespace S8
open PySem.Spec PyProof.Rows
def Si (w : World) (a : Addr) (ns : List Int) (h : Heap) : Prop := ∃ c, SetR w h a (fun j => decide (j ∈ ns)) c ∧ c ≤ ns.length
def SiO (w : World) (a : Addr) (ns : List Int) : HO := .ext (Si w a ns)
theorem ints_of_vals : ∀ {k : List Int} {us : List Value}, Vals (k.map V.int) us → IntsAre us k
  | [], _, .nil => .nil
  | _ :: _, _, .cons r t => by
    obtain ⟨tk, rfl⟩ := r
    exact .cons _ tk (ints_of_vals t)
theorem vals_of_ints : ∀ {k : List Int} {us : List Value}, IntsAre us k → Vals (k.map V.int) us
  | _, _, .nil => .nil
  | _, _, .cons _ tk t => .cons ⟨tk, rfl⟩ (vals_of_ints t)
def rSetI (K : PySem.W.Frag) (w : World) : List V → Hp → VK → Prop := fun xs H Q => ∃ (l : Addr) (ns : List Int), xs = [V.ref l] ∧ SqT K H l (ns.map V.int) ∧ ns.length < 60 ∧ ∀ a, H a = none → Q (.ref a) (upd H a (SiO w a ns))
theorem cr_setI {X : Cx} (hc : X.calm = true) : CallR X (.type "set") (rSetI X.K X.w) := by
  intro pins s σ H xs us Q I r h
  obtain ⟨l, ns, rfl, hl, hn, q⟩ := h
  rw [Vals.ref1 r]
  obtain ⟨its, rv, pl, _⟩ := I.tuple hl
  refine call_set_tupI (P := X.prog) (w := X.w) ns (I.ok.hd hc) pl (by simpa using ints_of_vals rv) (by unfold scanBound; omega) fun h' tk c T hc k => ?_
  have ob : ObjOk X.prog X.w (upd H s.heap.objs.size (SiO X.w s.heap.objs.size ns)) h' s.heap.objs.size (SiO X.w s.heap.objs.size ns) := by
    have T' := T
    obtain ⟨o, es, ep, t', ho, r⟩ := T'
    exact ⟨⟨c, T, hc⟩, ⟨o, ho⟩, fun h1 h2 ⟨c', T', l'⟩ k => ⟨c', T'.at k, l'⟩⟩
  exact ⟨.ref s.heap.objs.size, _, I.laid (t' := tk) k (Nat.le_refl _) ob, rfl, q _ (I.hok.fresh (Nat.le_refl _))⟩
def rSortI (w : World) : List V → Hp → VK → Prop := fun vs H Q => ∃ (a : Addr) (ns : List Int), vs = [V.ref a] ∧ H a = some (SiO w a ns) ∧ ns.length < 60 ∧
  ∀ (l : List Int) p, l.Pairwise (· < ·) → (∀ k, k ∈ l ↔ k ∈ ns) → H p = none → Q (.ref p) (upd H p (.lst (l.map V.int)))
theorem cr_sortI {X : Cx} (hc : X.calm = true) : CallR X (.builtin "sorted") (rSortI X.w) := by
  intro pins s σ H vs us Q I r h
  obtain ⟨a, ns, rfl, ha, hl, q⟩ := h
  obtain ⟨c, T, lc⟩ : Si X.w a ns s.heap := (I.hok a _ ha).1
  rw [Vals.ref1 r]
  refine L2.sorted_set (P := X.prog) T (I.ok.hd hc) (by omega) fun s' p out c' l k g o hp hg hi pw hm hlen => ?_
  have hn : H p = none := I.hok.fresh hp
  have J : Inv X pins σ (upd H p (.lst (l.map V.int))) { s with heap := s'.heap, gens := s'.gens, drawn := s'.drawn, toks := s'.toks } :=
    I.call (ch := []) (Un.laid k hp hn) (I.hok.laid k hp ⟨by rw [List.length_map]; exact small (by omega), out.toList, c', vals_of_ints hi, hg⟩) (by rw [g]; exact I.bare) (fun _ z => nomatch z)
  have e : s' = { s with heap := s'.heap, gens := s'.gens, drawn := s'.drawn, toks := s'.toks } := by
    cases s'
    cases s
    cases o
    rfl
  rw [e]
  exact ⟨.ref p, _, J, rfl, q l p pw (fun k => by rw [hm k]; simp) hn⟩
end S8
end
section
/-! ### the drawing's pseudo-random numbers -/
/-- all but the two lists is as it was -/
def MvH (h hc : Addr) (H H' : Hp) : Prop := ∀ b u, b ≠ h → b ≠ hc → H b = some u → H' b = some u
def Hst (H : Hp) (h hc : Addr) : Prop := ∃ (st ix : Int) (cells : List Int), H h = some (.lst [.int st, .ref hc, .int ix]) ∧ H hc = some (.lst (cells.map V.int)) ∧ h ≠ hc ∧ 0 ≤ st ∧ st < 2147483647 ∧ cells.length ≤ 1000
theorem MvH.refl {h hc : Addr} (H : Hp) : MvH h hc H H := fun _ _ _ _ e => e
theorem MvH.trans {h hc : Addr} {H H' H'' : Hp} (a : MvH h hc H H') (b : MvH h hc H' H'') : MvH h hc H H'' := fun c u n1 n2 e => b c u n1 n2 (a c u n1 n2 e)
theorem MvH.of {h hc : Addr} {H H' : Hp} (s : Same H H') : MvH h hc H H' := fun b u _ _ e => s b u e
theorem Hst.same {h hc : Addr} {H H' : Hp} (a : Hst H h hc) (s : Same H H') : Hst H' h hc := by
  obtain ⟨st, ix, cells, h1, h2, r⟩ := a
  exact ⟨st, ix, cells, s _ _ h1, s _ _ h2, r⟩
theorem MvH.tup {K : PySem.W.Frag} {h hc a : Addr} {H H' : Hp} {xs : List V} (m : MvH h hc H H') (k : Hst H h hc) (q : SqT K H a xs) : SqT K H' a xs := by
  obtain ⟨st, ix, cells, h1, h2, _⟩ := k
  have ne : ∀ {u : HO}, H a = some u → (∀ l, u ≠ .lst l) → a ≠ h ∧ a ≠ hc := fun {u} e d => ⟨fun z => by rw [z, h1] at e; exact d _ (Option.some.inj e).symm, fun z => by rw [z, h2] at e; exact d _ (Option.some.inj e).symm⟩
  rcases q with (e | ⟨o, e⟩) | q
  · exact .inl (.inl (m _ _ (ne e fun _ z => nomatch z).1 (ne e fun _ z => nomatch z).2 e))
  · exact .inl (.inr ⟨o, m _ _ (ne e fun _ z => nomatch z).1 (ne e fun _ z => nomatch z).2 e⟩)
  · exact .inr q
theorem take_intsV {ns : List Int} {i : Nat} {x : V} (h : (ns.map V.int)[i]? = some x) : ∃ z, x = .int z ∧ ns[i]? = some z := by
  rw [List.getElem?_map] at h
  cases e : ns[i]? with
  | none => rw [e] at h; cases h
  | some z =>
    rw [e] at h
    exact ⟨z, (Option.some.inj h).symm, rfl⟩
theorem fmod_rng (x : Int) {M : Int} (h : 0 < M) : 0 ≤ x.fmod M ∧ x.fmod M < M := by
  rw [Int.fmod_eq_emod_of_nonneg _ (by omega)]
  exact ⟨Int.emod_nonneg _ (by omega), Int.emod_lt_of_pos _ h⟩
theorem ixN_of {n : Nat} {i : Int} (h1 : 0 ≤ i) (h2 : i < n) : ixN n i = some i.toNat := by
  unfold ixN
  rw [if_pos h1, if_pos h2]
/-- an index within a list -/
theorem atI_of {α : Type} {l : List α} {i : Int} (h1 : 0 ≤ i) (h2 : i < l.length) : ∃ v, atI l i = some v ∧ l[i.toNat]? = some v := by
  have hl : i.toNat < l.length := by omega
  refine ⟨l[i.toNat], ?_, List.getElem?_eq_getElem hl⟩
  unfold atI ixN
  rw [if_pos h1, if_pos h2]
  exact List.getElem?_eq_getElem hl
section
variable {P : Program} {w : World} {K : PySem.W.Frag} {mg : Str → Option Value} {base : Heap}
def spNext : Sp := fun vs H Q _ => ∃ (h hc : Addr) (L : Int), vs = [.ref h, .int L] ∧ 0 < L ∧ L < 1000000 ∧ Hst H h hc ∧ ∀ r H', 0 ≤ r → r < L → MvH h hc H H' → Hst H' h hc → Q (.int r) H'
abbrev s__law_next : Stmt := top 46
theorem sc__law_next : FnScope ["_law_h", "_law_limit", "_law_cell"] ["_law_h", "_law_limit"] (defScope s__law_next) := ⟨rfl, rfl, rfl, by decide +kernel, rfl, by decide +kernel, by decide +kernel⟩
theorem ok_next (D : DefAt K mg "_law_next" s__law_next ["_law_h", "_law_limit"]) (T : Txt K mg) : DefOk P w K mg base CX0 1 "_law_next" spNext := by
  refine D.ok sc__law_next (fun vs H Q E h => ?_) (fun f cdv A outer s H vs Q E hr hh => ?_)
  · obtain ⟨h, hc, L, rfl, _⟩ := h
    rfl
  · obtain ⟨h, hc, L, rfl, lp, lm, ⟨st, ix, cells, e1, e2, ne, s0, s1, cl⟩, q⟩ := hh
    refine ⟨_, (pss_cons (ps_set (i := 2) sc__law_next.nd rfl (by first | exact Or.inl rfl | exact Or.inr rfl) (pe_ix (show IxR _ (rIxL K) from ix_list) (pe_op op_cat (pe_ix (show IxR _ (rIxL K) from ix_list) (pv 0) pe_int (fun _ _ => rfl)) (pe_lst (pa_cons pe_int pa_nil))) (pe_op op_modN (pe_callTy call_int1 rfl T.b_int bt_int (pa_cons (pe_ix (show IxR _ (rIxL K) from ix_list) (pv 0) pe_int (fun _ _ => rfl)) pa_nil)) (pe_callB (call_max2 rfl) rfl T.b_max bt_max (pa_cons pe_int (pa_cons (pe_callB (show CallR _ _ (rLen K) from call_lenK) rfl T.b_len bt_len (pa_cons (pe_ix (show IxR _ (rIxL K) from ix_list) (pv 0) pe_int (fun _ _ => rfl)) pa_nil)) pa_nil)))) (fun _ _ => rfl))) (pss_cons (ps_if (pt_cmpR op_ge (pv 2) (pe_op op_pow pe_int pe_int) (nomark _)) (pss_cons (ps_asg (pe_op op_fdivN (pv 2) (pv 1)) (pg_sub (pe_ix (show IxR _ (rIxL K) from ix_list) (pv 0) pe_int (fun _ _ => rfl)) (pe_op op_modN (pe_callTy call_int1 rfl T.b_int bt_int (pa_cons (pe_ix (show IxR _ (rIxL K) from ix_list) (pv 0) pe_int (fun _ _ => rfl)) pa_nil)) (pe_callB (show CallR _ _ (rLen K) from call_lenK) rfl T.b_len bt_len (pa_cons (pe_ix (show IxR _ (rIxL K) from ix_list) (pv 0) pe_int (fun _ _ => rfl)) pa_nil))) set_list)) (pss_one (ps_ret (pe_op op_modN (pe_callTy call_int1 rfl T.b_int bt_int (pa_cons (pv 2) pa_nil)) (pv 1))))) pss_nil) (pss_cons (ps_asg (pe_op op_modN (pe_callTy call_int1 rfl T.b_int bt_int (pa_cons (pe_op op_add (pe_op op_add (pe_op op_mul (pe_ix (show IxR _ (rIxL K) from ix_list) (pv 0) pe_int (fun _ _ => rfl)) pe_int) (pe_op op_mul (pv 2) pe_int)) pe_int) pa_nil)) pe_int) (pg_sub (pv 0) pe_int set_list)) (pss_cons (ps_asg (pe_op op_add (pe_ix (show IxR _ (rIxL K) from ix_list) (pv 0) pe_int (fun _ _ => rfl)) pe_int) (pg_sub (pv 0) pe_int set_list)) (pss_one (ps_ret (pe_op op_modN (pe_callTy call_int1 rfl T.b_int bt_int (pa_cons (pe_op op_fdivN (pe_ix (show IxR _ (rIxL K) from ix_list) (pv 0) pe_int (fun _ _ => rfl)) pe_int) pa_nil)) (pv 1)))))))), ?_⟩
    walk_at "gx"
    refine ⟨small (by decide), fun p1 n1 => ?_⟩
    generalize hE : upd H p1 _ = H1; obtain ⟨k1, g1⟩ := updN n1 hE
    refine w_cat (k1 _ _ e2) g1 (small (by simp; omega)) (fun p2 H2 n2 k2 g2 => ?_)
    walk_at "gx"
    have mx : (0 : Int) < (if ((cells.map V.int).length : Int) > 1 then ((cells.map V.int).length : Int) else 1) := by
      split <;> omega
    generalize hM : (if ((cells.map V.int).length : Int) > 1 then ((cells.map V.int).length : Int) else 1) = M at mx ⊢
    refine w_I (by omega) ?_
    obtain ⟨m0, m1⟩ := fmod_rng ix mx
    have M1 : M ≤ cells.length + 1 := by
      rw [← hM]
      rw [List.length_map]
      split <;> omega
    obtain ⟨v, a1, a2⟩ := atI_of (l := cells.map V.int ++ [V.int 0]) m0 (by simp; omega)
    refine w_ixL (SqL.of g2) a1 ?_
    have e0 : cells.map V.int ++ [V.int 0] = (cells ++ [0]).map V.int := by simp
    rw [e0] at a2
    obtain ⟨z, rfl, hz⟩ := take_intsV a2
    walk_at "gx"
    refine w_I (by refine ⟨by decide, by decide, by decide⟩) ?_
    walk_at "gx"
    refine ited (fun h1 => ?_) (fun h1 => ?_)
    · walk_at "gx"
      refine w_I ⟨by omega, by omega⟩ ?_
      walk_at "gx"
      have zn : (ix.fmod M).toNat < cells.length := by
        rcases Nat.lt_or_ge (ix.fmod M).toNat cells.length with q | q
        · exact q
        · exfalso
          have e : (ix.fmod M).toNat = cells.length := by omega
          rw [e] at hz
          simp at hz
          subst hz
          exact absurd h1 (by decide)
      have eM : M = (cells.length : Int) := by
        rw [← hM, List.length_map]
        split <;> omega
      have lc : (0 : Int) < ((cells.map V.int).length : Int) := by
        rw [List.length_map]
        omega
      refine w_I (by omega) ?_
      obtain ⟨k0, k1'⟩ := fmod_rng ix lc
      refine w_setL (k2 _ _ (k1 _ _ e2)) (ixN_of k0 k1') ?_
      walk_at "gx"
      refine w_I (by omega) ?_
      obtain ⟨r0, r1⟩ := fmod_rng z lp
      refine q _ _ r0 r1 (fun b u b1 b2 e => ?_) ⟨st, ix, cells.set (ix.fmod ((cells.map V.int).length : Int)).toNat (z.fdiv L), ?_, ?_, ne, s0, s1, by rw [List.length_set]; exact cl⟩
      · rw [upd_ne b2]
        exact k2 _ _ (k1 _ _ e)
      · rw [upd_ne ne]
        exact k2 _ _ (k1 _ _ e1)
      · rw [upd_same, List.map_set]
    · walk_at "gx"
      refine w_I (.inr ⟨by decide, by decide⟩) ?_
      walk_at "gx"
      refine w_I (.inr ⟨by decide, by decide⟩) ?_
      walk_at "gx"
      refine w_I (by decide) ?_
      walk_at "gx"
      obtain ⟨t0, t1⟩ := fmod_rng (st * 48271 + z * 69621 + 11) (M := 2147483647) (by decide)
      refine w_setL (k2 _ _ (k1 _ _ e1)) (by rfl) ?_
      generalize hS : (st * 48271 + z * 69621 + 11).fmod 2147483647 = st' at t0 t1 ⊢
      generalize hE3 : upd H2 h _ = H3
      have g3 : H3 h = some (.lst [.int st', .ref hc, .int ix]) := by rw [← hE3, upd_same]; rfl
      walk_at "gx"
      refine w_setL g3 (by rfl) ?_
      generalize hE4 : upd H3 h _ = H4
      have g4 : H4 h = some (.lst [.int st', .ref hc, .int (ix + 1)]) := by rw [← hE4, upd_same]; rfl
      walk_at "gx"
      refine w_I ⟨by decide, by decide⟩ ?_
      walk_at "gx"
      refine w_I (by omega) ?_
      obtain ⟨r0, r1⟩ := fmod_rng (st'.fdiv 7) lp
      refine q _ _ r0 r1 (fun b u b1 b2 e => ?_) ⟨st', ix + 1, cells, g4, ?_, ne, t0, t1, cl⟩
      · rw [← hE4, upd_ne b1, ← hE3, upd_ne b1]
        exact k2 _ _ (k1 _ _ e)
      · rw [← hE4, upd_ne (Ne.symm ne), ← hE3, upd_ne (Ne.symm ne)]
        exact k2 _ _ (k1 _ _ e2)
end
end
section
/-! ### the island of the drawing -/
abbrev sg (c : Nat) : Str := ⟨#[c]⟩
/-- the ints of a tuple -/
abbrev TI2 (K : PySem.W.Frag) (H : Hp) (a : Addr) (k : List Int) : Prop := SqT K H a (k.map V.int)
def dxOf (f : Int) : Int := if f % 4 = 0 then -1 else if f % 4 = 2 then 1 else 0
def dyOf (f : Int) : Int := if f % 4 = 1 then 1 else if f % 4 = 3 then -1 else 0
def sgs : List Nat := [46, 126, 65, 66, 84]
structure Isl (rows : List Str) (W : Nat) : Prop where
  r1 : 1 ≤ rows.length
  r4 : rows.length ≤ 4
  w1 : 1 ≤ W
  w4 : W ≤ 4
  wide : ∀ z ∈ rows, z.cps.size = W
  of : ∀ z ∈ rows, ∀ c ∈ z.cps.toList, c ∈ sgs
/-- the sign at a place, water around -/
def signAt (rows : List Str) (x y : Int) : Nat := if 0 ≤ x ∧ 0 ≤ y then (match rows[x.toNat]? with | some z => z.cps.toList[y.toNat]?.getD 126 | none => 126) else 126
theorem signAt_in {rows : List Str} {W : Nat} (I : Isl rows W) {x y : Int} (h : signAt rows x y ≠ 126) : 0 ≤ x ∧ x < rows.length ∧ 0 ≤ y ∧ y < W := by
  unfold signAt at h
  split at h
  · rename_i p
    split at h
    · rename_i z hz
      have l1 := (List.getElem?_eq_some_iff.mp hz).1
      have m : z ∈ rows := List.mem_of_getElem? hz
      cases e : z.cps.toList[y.toNat]? with
      | none =>
        rw [e] at h
        exact absurd rfl h
      | some c =>
        have l2 := (List.getElem?_eq_some_iff.mp e).1
        rw [Array.length_toList, I.wide z m] at l2
        omega
    · exact absurd rfl h
  · exact absurd rfl h
theorem signAt_sgs {rows : List Str} {W : Nat} (I : Isl rows W) (x y : Int) : signAt rows x y ∈ sgs := by
  unfold signAt
  split
  · split
    · rename_i z hz
      have m : z ∈ rows := List.mem_of_getElem? hz
      cases e : z.cps.toList[y.toNat]? with
      | none => exact (by decide : 126 ∈ sgs)
      | some c => exact I.of z m c (List.mem_of_getElem? e)
    · exact (by decide : 126 ∈ sgs)
  · exact (by decide : 126 ∈ sgs)
theorem signAt_here {rows : List Str} {W : Nat} (I : Isl rows W) {x y : Int} (x0 : 0 ≤ x) (x1 : x < rows.length) (y0 : 0 ≤ y) (y1 : y < W) : ∃ z, rows[x.toNat]? = some z ∧ z.cps.size = W ∧ z.cps.toList[y.toNat]? = some (signAt rows x y) := by
  have l1 : x.toNat < rows.length := by omega
  have hz := List.getElem?_eq_getElem l1
  have hw := I.wide _ (List.getElem_mem l1)
  have l2 : y.toNat < rows[x.toNat].cps.toList.length := by
    rw [Array.length_toList, hw]
    omega
  refine ⟨_, hz, hw, ?_⟩
  unfold signAt
  rw [if_pos ⟨x0, y0⟩, hz]
  show _ = some (rows[x.toNat].cps.toList[y.toNat]?.getD 126)
  rw [List.getElem?_eq_getElem l2]
  rfl
theorem signAt_out {rows : List Str} {W : Nat} (I : Isl rows W) {x y : Int} (h : ¬ (0 ≤ x ∧ x < rows.length ∧ 0 ≤ y ∧ y < W)) : signAt rows x y = 126 := by
  rcases Classical.em (signAt rows x y = 126) with e | e
  · exact e
  · exact absurd (signAt_in I e) h
section
variable {P : Program} {w : World} {K : PySem.W.Frag} {mg : Str → Option Value} {base : Heap}
/-! #### a step on -/
def spOn (K : PySem.W.Frag) : Sp := fun vs H Q _ => ∃ (c : Addr) (x y f : Int) (r : List Int), vs = [.ref c, .int f] ∧ TI2 K H c (x :: y :: r) ∧ ∀ a H', H a = none → Same H H' → H' a = some (.tup [.int (x + dxOf f), .int (y + dyOf f)]) → Q (.ref a) H'
abbrev s__law_on : Stmt := top 51
theorem sc__law_on : FnScope ["_law_cell", "_law_facing", "_law_down", "_law_right"] ["_law_cell", "_law_facing"] (defScope s__law_on) := ⟨rfl, rfl, rfl, by decide +kernel, rfl, by decide +kernel, by decide +kernel⟩
theorem ok_on (D : DefAt K mg "_law_on" s__law_on ["_law_cell", "_law_facing"]) (T : Txt K mg) : DefOk P w K mg base CX0 1 "_law_on" (spOn K) := by
  refine D.ok sc__law_on (fun vs H Q E h => ?_) (fun f cdv A outer s H vs Q E hr hh => ?_)
  · obtain ⟨c, x, y, f, r, rfl, _⟩ := h
    rfl
  · obtain ⟨c, x, y, f, r, rfl, hc, q⟩ := hh
    refine ⟨_, (pss_cons (ps_asg (pe_ix (show IxR _ (rIxL K) from ix_list) (pe_lst (pa_cons (pe_tup (pa_cons (pe_op op_sub pe_int pe_int) (pa_cons pe_int pa_nil))) (pa_cons (pe_tup (pa_cons pe_int (pa_cons pe_int pa_nil))) (pa_cons (pe_tup (pa_cons pe_int (pa_cons pe_int pa_nil))) (pa_cons (pe_tup (pa_cons pe_int (pa_cons (pe_op op_sub pe_int pe_int) pa_nil))) pa_nil))))) (pe_op op_modN (pe_callTy call_int1 rfl T.b_int bt_int (pa_cons (pv 1) pa_nil)) pe_int) (fun _ _ => rfl)) (pg_tup rfl (pgs_cons (pg_name (i := 2) sc__law_on.nd rfl (by first | exact Or.inl rfl | exact Or.inr rfl)) (pgs_cons (pg_name (i := 3) sc__law_on.nd rfl (by first | exact Or.inl rfl | exact Or.inr rfl)) pgs_nil)))) (pss_one (ps_ret (pe_tup (pa_cons (pe_op op_add (pe_ix (show IxR _ (rIxT K) from ix_tup) (pv 0) pe_int (fun _ _ => rfl)) (pv 2)) (pa_cons (pe_op op_add (pe_ix (show IxR _ (rIxT K) from ix_tup) (pv 0) pe_int (fun _ _ => rfl)) (pv 3)) pa_nil)))))), ?_⟩
    walk_at "gx"
    refine ⟨small (by simp), fun p1 n1 => ?_⟩
    generalize hE1 : upd H p1 _ = H1; obtain ⟨k1, g1⟩ := updN n1 hE1
    walk_at "gx"
    refine ⟨small (by simp), fun p2 n2 => ?_⟩
    generalize hE2 : upd H1 p2 _ = H2; obtain ⟨k2, g2⟩ := updN n2 hE2
    walk_at "gx"
    refine ⟨small (by simp), fun p3 n3 => ?_⟩
    generalize hE3 : upd H2 p3 _ = H3; obtain ⟨k3, g3⟩ := updN n3 hE3
    walk_at "gx"
    refine ⟨small (by simp), fun p4 n4 => ?_⟩
    generalize hE4 : upd H3 p4 _ = H4; obtain ⟨k4, g4⟩ := updN n4 hE4
    walk_at "gx"
    refine ⟨small (by simp), fun p5 n5 => ?_⟩
    generalize hE5 : upd H4 p5 _ = H5; obtain ⟨k5, g5⟩ := updN n5 hE5
    walk_at "gx"
    refine w_I (by decide) ?_
    have fin : ∀ (p : Addr) (dx dy : Int), SqT K H5 p [.int dx, .int dy] → dx = dxOf f → dy = dyOf f → ∀ (σ : St), σ = [some (.ref c), some (.int f), none, none] → gTup K 2 (gCons (gName 2) (gCons (gName 3) gNil)) (.ref p) σ H5
        (fun σ' H' => tRet (tTup (tCons (tOp (rI0 fun i j => V.int (i + j)) (tOp (rIxT K) (tVar 0) (tC (V.int 0))) (tVar 2)) (tCons (tOp (rI0 fun i j => V.int (i + j)) (tOp (rIxT K) (tVar 0) (tC (V.int 1))) (tVar 3)) tNil))) { nx := fun _ H' => Q .non H', rt := Q } σ' H') := by
      intro p dx dy hp ex ey σ hσ
      have km : Same H H5 := fun b u e => k5 _ _ (k4 _ _ (k3 _ _ (k2 _ _ (k1 _ _ e))))
      subst ex ey hσ
      refine w_gtup hp rfl ?_
      walk_at "gx"
      refine ⟨small (by simp), fun p6 n6 => ?_⟩
      generalize hE6 : upd H5 p6 _ = H6; obtain ⟨k6, g6⟩ := updN n6 hE6
      exact q p6 H6 (by
        cases e : H p6 with
        | none => rfl
        | some u => rw [km _ _ e] at n6; cases n6) (fun b u e => k6 _ _ (km _ _ e)) g6
    have fm : f.fmod 4 = f % 4 := Int.fmod_eq_emod_of_nonneg _ (by decide)
    rw [fm]
    have h4 : f % 4 = 0 ∨ f % 4 = 1 ∨ f % 4 = 2 ∨ f % 4 = 3 := by omega
    rcases h4 with e | e | e | e <;> rw [e]
    · refine w_ixL (SqL.of g5) (by rfl) (fin p1 _ _ (by walk_at "sq") (by rw [dxOf, if_pos e]; rfl) (by rw [dyOf, if_neg (by omega), if_neg (by omega)]) _ rfl)
    · refine w_ixL (SqL.of g5) (by rfl) (fin p2 _ _ (by walk_at "sq") (by rw [dxOf, if_neg (by omega), if_neg (by omega)]) (by rw [dyOf, if_pos e]) _ rfl)
    · refine w_ixL (SqL.of g5) (by rfl) (fin p3 _ _ (by walk_at "sq") (by rw [dxOf, if_neg (by omega), if_pos e]) (by rw [dyOf, if_neg (by omega), if_neg (by omega)]) _ rfl)
    · refine w_ixL (SqL.of g5) (by rfl) (fin p4 _ _ (by walk_at "sq") (by rw [dxOf, if_neg (by omega), if_neg (by omega)]) (by rw [dyOf, if_neg (by omega), if_pos e]; rfl) _ rfl)
/-! #### the sign of a cell -/
def spSign (K : PySem.W.Frag) : Sp := fun vs H Q _ => ∃ (a c : Addr) (rows : List Str) (W : Nat) (x y : Int) (r : List Int), vs = [.ref a, .ref c] ∧ SqT K H a (rows.map V.str) ∧ Isl rows W ∧ TI2 K H c (x :: y :: r) ∧ Q (.str (sg (signAt rows x y))) H
theorem row_at {rows : List Str} {x : Int} {z : Str} (x0 : 0 ≤ x) (h : rows[x.toNat]? = some z) : atI (rows.map V.str) x = some (.str z) := by
  unfold atI
  have l := (List.getElem?_eq_some_iff.mp h).1
  rw [ixN_of x0 (by rw [List.length_map]; omega)]
  show (rows.map V.str)[x.toNat]? = _
  rw [List.getElem?_map, h]
  rfl
theorem chr_at {z : Str} {y : Int} {c : Nat} (y0 : 0 ≤ y) (h : z.cps.toList[y.toNat]? = some c) : atI z.cps.toList y = some c := by
  unfold atI
  have l := (List.getElem?_eq_some_iff.mp h).1
  rw [ixN_of y0 (by omega)]
  exact h
theorem zlen (z : Str) : z.length = z.cps.size := rfl
abbrev s__law_sign : Stmt := top 49
theorem sc__law_sign : FnScope ["_law_rows_here", "_law_cell"] ["_law_rows_here", "_law_cell"] (defScope s__law_sign) := ⟨rfl, rfl, rfl, by decide +kernel, rfl, by decide +kernel, by decide +kernel⟩
theorem ok_sign (D : DefAt K mg "_law_sign" s__law_sign ["_law_rows_here", "_law_cell"]) (T : Txt K mg) : DefOk P w K mg base CX0 1 "_law_sign" (spSign K) := by
  refine D.ok sc__law_sign (fun vs H Q E h => ?_) (fun f cdv A outer s H vs Q E hr hh => ?_)
  · obtain ⟨a, c, rows, W, x, y, r, rfl, _⟩ := h
    rfl
  · obtain ⟨a, c, rows, W, x, y, r, rfl, ha, I, hc, q⟩ := hh
    have I4 := I.r4
    have I1 := I.r1
    have Iw := I.w4
    refine ⟨_, (pss_cons (ps_if (PW.pt (pw_or (pt_not (pt_chain op_le op_lt pe_int (pe_ix (show IxR _ (rIxT K) from ix_tup) (pv 1) pe_int (fun _ _ => rfl)) (pe_callB (show CallR _ _ (rLen K) from call_lenK) rfl T.b_len bt_len (pa_cons (pv 0) pa_nil)))) (pw_or1 (pt_not (pt_chain op_le op_lt pe_int (pe_ix (show IxR _ (rIxT K) from ix_tup) (pv 1) pe_int (fun _ _ => rfl)) (pe_callB call_len_str rfl T.b_len bt_len (pa_cons (pe_ix (show IxR _ (rIxT K) from ix_tup) (pv 0) pe_int (fun _ _ => rfl)) pa_nil))))))) (pss_one (ps_ret pe_str)) pss_nil) (pss_one (ps_ret (pe_ix ix_str (pe_ix (show IxR _ (rIxT K) from ix_tup) (pv 0) (pe_ix (show IxR _ (rIxT K) from ix_tup) (pv 1) pe_int (fun _ _ => rfl)) (fun _ _ => rfl)) (pe_ix (show IxR _ (rIxT K) from ix_tup) (pv 1) pe_int (fun _ _ => rfl)) (fun _ _ => rfl))))), ?_⟩
    obtain ⟨z0, hz0, hw0⟩ : ∃ z, rows[(0 : Int).toNat]? = some z ∧ z.cps.size = W := by
      have l : 0 < rows.length := I1
      exact ⟨rows[0], List.getElem?_eq_getElem l, I.wide _ (List.getElem_mem l)⟩
    have out : signAt rows x y = 126 → Q (.str (sg 126)) H := fun e => by rw [e] at q; exact q
    have fin : ¬ (0 ≤ x ∧ x < rows.length ∧ 0 ≤ y ∧ y < W) → Q (.str (sg 126)) H := fun h => out (signAt_out I h)
    walk_at "gx"
    refine ited (fun hx0 => ?_) (fun hx0 => ?_)
    · walk_at "gx"
      refine itend (fun hx1 => ?_) (fun hx1 => ?_)
      · walk_at "gx"
        exact fin fun z => hx1 (by rw [List.length_map]; exact z.2.1)
      · rw [List.length_map] at hx1
        walk_at "gx"
        refine ited (fun hy0 => ?_) (fun hy0 => ?_)
        · walk_at "gx"
          refine w_ixT ha (row_at (by decide) hz0) ?_
          walk_at "gx"
          refine ⟨small (by rw [zlen]; omega), ?_⟩
          rw [zlen, hw0]
          walk_at "gx"
          refine itend (fun hy1 => ?_) (fun hy1 => ?_)
          · walk_at "gx"
            exact fin fun z => hy1 z.2.2.2
          · walk_at "gx"
            obtain ⟨z, hz, hw, hcv⟩ := signAt_here I hx0 hx1 hy0 hy1
            refine w_ixT ha (row_at hx0 hz) ?_
            walk_at "gx"
            exact w_ixS (small (by rw [zlen]; omega)) (chr_at hy0 hcv) q
        · walk_at "gx"
          refine ifT rfl ?_
          walk_at "gx"
          exact fin fun z => hy0 z.2.2.1
    · walk_at "gx"
      refine ifT rfl ?_
      walk_at "gx"
      exact fin fun z => hx0 z.1
end
end
section
/-! ### lists of tuples of ints, comprehensions -/
abbrev LK := List (Addr × List Int)
abbrev refs (L : LK) : List V := L.map fun p => V.ref p.1
def Cel (K : PySem.W.Frag) (H : Hp) (L : LK) : Prop := ∀ p ∈ L, SqT K H p.1 (p.2.map V.int)
theorem Same.updD {H H' : Hp} {D : Addr} {o : HO} (s : Same H H') (n : H D = none) : Same H (upd H' D o) := fun b u e => by
  rw [upd_ne (ne_of_none e n)]
  exact s b u e
theorem SqT.updL {K : PySem.W.Frag} {H : Hp} {D a : Addr} {acc : List V} {o : HO} {xs : List V} (hD : H D = some (.lst acc)) (h : SqT K H a xs) : SqT K (upd H D o) a xs := by
  have ne : ∀ {u : HO}, H a = some u → (∀ l, u ≠ .lst l) → a ≠ D := fun {u} e d z => by
    rw [z, hD] at e
    exact d _ (Option.some.inj e).symm
  rcases h with (e | ⟨o', e⟩) | q
  · exact .inl (.inl (by rw [upd_ne (ne e fun _ z => nomatch z)]; exact e))
  · exact .inl (.inr ⟨o', by rw [upd_ne (ne e fun _ z => nomatch z)]; exact e⟩)
  · exact .inr q
theorem Cel.same {K : PySem.W.Frag} {H H' : Hp} {L : LK} (s : Same H H') (h : Cel K H L) : Cel K H' L := fun p hp => Same.seqT s (h p hp)
theorem Cel.updL {K : PySem.W.Frag} {H : Hp} {D : Addr} {acc : List V} {o : HO} {L : LK} (hD : H D = some (.lst acc)) (h : Cel K H L) : Cel K (upd H D o) L := fun p hp => SqT.updL hD (h p hp)
theorem Cel.nil {K : PySem.W.Frag} {H : Hp} : Cel K H [] := fun p hp => nomatch hp
theorem Cel.app {K : PySem.W.Frag} {H : Hp} {L M : LK} (h1 : Cel K H L) (h2 : Cel K H M) : Cel K H (L ++ M) := fun p hp => (List.mem_append.mp hp).elim (h1 p) (h2 p)
theorem Cel.snoc {K : PySem.W.Frag} {H : Hp} {L : LK} {p : Addr} {k : List Int} (h1 : Cel K H L) (h2 : SqT K H p (k.map V.int)) : Cel K H (L ++ [(p, k)]) := h1.app fun q hq => by
  rw [List.mem_singleton.mp hq]
  exact h2
theorem refs_app (L M : LK) : refs L ++ refs M = refs (L ++ M) := by simp [refs]
theorem refs_snoc (L : LK) (p : Addr) (k : List Int) : refs L ++ [V.ref p] = refs (L ++ [(p, k)]) := by simp [refs]
theorem refs_len (L : LK) : (refs L).length = L.length := by simp [refs]
theorem refs_get {L : LK} {i : Nat} {x : V} (h : (refs L)[i]? = some x) : ∃ p, L[i]? = some p ∧ x = .ref p.1 := by
  unfold refs at h
  rw [List.getElem?_map] at h
  cases e : L[i]? with
  | none => rw [e] at h; cases h
  | some p =>
    rw [e] at h
    exact ⟨p, rfl, (Option.some.inj h).symm⟩
section
variable {σ : St} {H : Hp} {te : TE} {g : TG} {tt : TT} {vs : List Nat} {Q : VK} {K : PySem.W.Frag}
theorem lc_of {J : It} {n : Nat} (Pv : Nat → Addr → Hp → Prop) (h0 : ∀ D, H D = none → Pv 0 D (upd H D (.lst []))) (hstop : ∀ D H, Pv n D H → J.stop n H) (hgo : ∀ i D H, i < n → Pv i D H → J.go i H)
    (ht : ∀ i D H0 x H', i < n → Pv i D H0 → J.yld i H0 x H' → g x (wipe σ vs) H' fun σ2 H2 => wipe σ2 vs = wipe σ vs ∧ tt σ2 H2 fun b H3 =>
      if b = true then te σ2 H3 fun y H4 => ∃ acc, H4 D = some (.lst acc) ∧ acc.length < sizeLine ∧ Pv (i + 1) D (upd H4 D (.lst (acc ++ [y]))) else Pv (i + 1) D H3)
    (hd : ∀ D H, Pv n D H → Q (.ref D) H) : CompOk J g tt te vs σ Q H := by
  intro D hD
  refine ⟨fun i m H' => m = n - i ∧ i ≤ n ∧ Pv i D H', ⟨n, rfl, Nat.zero_le _, h0 D hD⟩, ?_⟩
  rintro i m H' ⟨rfl, hi, p⟩
  by_cases hlt : i < n
  · exact .inr ⟨hgo i D H' hlt p, Pv (i + 1) D, fun H2 p2 => ⟨n - (i + 1), by omega, rfl, hlt, p2⟩, fun x H2 y => ht i D H' x H2 hlt p y⟩
  · have e : i = n := by omega
    subst e
    exact .inl ⟨hstop D H' p, hd D H' p⟩
/-- over range(n) -/
theorem lc_rng {n : Nat} {j : Int} (hj : j = (n : Int)) (hn : n ≤ 1000000) (Pv : Nat → Addr → Hp → Prop) (h0 : ∀ D, H D = none → Pv 0 D (upd H D (.lst [])))
    (ht : ∀ i D H0, i < n → Pv i D H0 → g (.int (i : Int)) (wipe σ vs) H0 fun σ2 H2 => wipe σ2 vs = wipe σ vs ∧ tt σ2 H2 fun b H3 =>
      if b = true then te σ2 H3 fun y H4 => ∃ acc, H4 D = some (.lst acc) ∧ acc.length < sizeLine ∧ Pv (i + 1) D (upd H4 D (.lst (acc ++ [y]))) else Pv (i + 1) D H3)
    (hd : ∀ D H, Pv n D H → Q (.ref D) H) : -(2 ^ 62) ≤ j ∧ j < 2 ^ 62 ∧ CompOk (Itr 0 j.toNat) g tt te vs σ Q H := by
  subst hj
  refine ⟨by omega, by omega, ?_⟩
  rw [Int.toNat_natCast]
  refine lc_of (n := n) Pv h0 (fun D H p => Nat.le_refl _) (fun i D H hi p => hi) (fun i D H0 x H' hi p y => ?_) hd
  obtain ⟨e1, e2⟩ := y
  subst e1 e2
  have e : (0 : Int) + (i : Int) = (i : Int) := Int.zero_add _
  rw [e]
  exact ht i D _ hi p
theorem lc_list {a : Addr} {xs : List V} (hs : SqL K H a xs) (Pv : Nat → Addr → Hp → Prop) (h0 : ∀ D, H D = none → Pv 0 D (upd H D (.lst []))) (hk : ∀ i D H', i ≤ xs.length → Pv i D H' → SqL K H' a xs)
    (ht : ∀ i D H0 x, xs[i]? = some x → Pv i D H0 → g x (wipe σ vs) H0 fun σ2 H2 => wipe σ2 vs = wipe σ vs ∧ tt σ2 H2 fun b H3 =>
      if b = true then te σ2 H3 fun y H4 => ∃ acc, H4 D = some (.lst acc) ∧ acc.length < sizeLine ∧ Pv (i + 1) D (upd H4 D (.lst (acc ++ [y]))) else Pv (i + 1) D H3)
    (hd : ∀ D H, Pv xs.length D H → Q (.ref D) H) : (∃ xs, SqL K H a xs) ∧ CompOk (Itl K a) g tt te vs σ Q H := by
  refine ⟨⟨xs, hs⟩, lc_of (n := xs.length) Pv h0 (fun D H p => ?_) (fun i D H hi p => ?_) (fun i D H0 x H' hi p y => ?_) hd⟩
  · exact ⟨xs, hk _ D H (Nat.le_refl _) p, Nat.le_refl _⟩
  · exact ⟨xs, xs[i], hk _ D H (Nat.le_of_lt hi) p, List.getElem?_eq_getElem hi⟩
  · obtain ⟨e1, f⟩ := y
    subst e1
    exact ht i D _ x (f xs (hk i D _ (Nat.le_of_lt hi) p)) p
theorem lc_tup {a : Addr} {xs : List V} (hs : SqT K H a xs) (Pv : Nat → Addr → Hp → Prop) (h0 : ∀ D, H D = none → Pv 0 D (upd H D (.lst []))) (hk : ∀ i D H', i ≤ xs.length → Pv i D H' → SqT K H' a xs)
    (ht : ∀ i D H0 x, xs[i]? = some x → Pv i D H0 → g x (wipe σ vs) H0 fun σ2 H2 => wipe σ2 vs = wipe σ vs ∧ tt σ2 H2 fun b H3 =>
      if b = true then te σ2 H3 fun y H4 => ∃ acc, H4 D = some (.lst acc) ∧ acc.length < sizeLine ∧ Pv (i + 1) D (upd H4 D (.lst (acc ++ [y]))) else Pv (i + 1) D H3)
    (hd : ∀ D H, Pv xs.length D H → Q (.ref D) H) : (∃ xs, SqT K H a xs) ∧ CompOk (Itt K a) g tt te vs σ Q H := by
  refine ⟨⟨xs, hs⟩, lc_of (n := xs.length) Pv h0 (fun D H p => ?_) (fun i D H hi p => ?_) (fun i D H0 x H' hi p y => ?_) hd⟩
  · exact ⟨xs, hk _ D H (Nat.le_refl _) p, Nat.le_refl _⟩
  · exact ⟨xs, xs[i], hk _ D H (Nat.le_of_lt hi) p, List.getElem?_eq_getElem hi⟩
  · obtain ⟨e1, f⟩ := y
    subst e1
    exact ht i D _ x (f xs (hk i D _ (Nat.le_of_lt hi) p)) p
/-- over a text -/
theorem lc_str {x : Str} (Pv : Nat → Addr → Hp → Prop) (h0 : ∀ D, H D = none → Pv 0 D (upd H D (.lst [])))
    (ht : ∀ i D H0 c, x.cps.toList[i]? = some c → Pv i D H0 → g (.str ⟨#[c]⟩) (wipe σ vs) H0 fun σ2 H2 => wipe σ2 vs = wipe σ vs ∧ tt σ2 H2 fun b H3 =>
      if b = true then te σ2 H3 fun y H4 => ∃ acc, H4 D = some (.lst acc) ∧ acc.length < sizeLine ∧ Pv (i + 1) D (upd H4 D (.lst (acc ++ [y]))) else Pv (i + 1) D H3)
    (hd : ∀ D H, Pv x.cps.size D H → Q (.ref D) H) : CompOk (Its x) g tt te vs σ Q H := by
  refine lc_of (n := x.cps.size) Pv h0 (fun D H p => Nat.le_refl _) (fun i D H hi p => hi) (fun i D H0 v H' hi p y => ?_) hd
  obtain ⟨e1, c, hc, rfl⟩ := y
  subst e1
  exact ht i D _ c (by rw [Array.getElem?_toList]; exact hc) p
end
end
section
section
variable {P : Program} {w : World} {K : PySem.W.Frag} {mg : Str → Option Value} {base : Heap}
/-! #### the start of the numbers -/
def spMix (K : PySem.W.Frag) : Sp := fun vs H Q _ => ∃ (a : Addr) (ns : List Int) (sd : Int), vs = [.ref a, .int sd] ∧ SqL K H a (ns.map V.int) ∧ ns.length ≤ 1000 ∧ 0 ≤ sd ∧ sd < 2147483647 ∧ ∀ h hc H', Same H H' → Hst H' h hc → Q (.ref h) H'
abbrev s__law_mix : Stmt := top 45
theorem sc__law_mix : FnScope ["_law_script", "_law_seed", "_law_state", "_law_cell"] ["_law_script", "_law_seed"] (defScope s__law_mix) := ⟨rfl, rfl, rfl, by decide +kernel, rfl, by decide +kernel, by decide +kernel⟩
theorem ok_mix (D : DefAt K mg "_law_mix" s__law_mix ["_law_script", "_law_seed"]) (T : Txt K mg) : DefOk P w K mg base CX0 1 "_law_mix" (spMix K) := by
  refine D.ok sc__law_mix (fun vs H Q E h => ?_) (fun f cdv A outer s H vs Q E hr hh => ?_)
  · obtain ⟨a, ns, sd, rfl, _⟩ := h
    rfl
  · obtain ⟨a, ns, sd, rfl, ha, hl, s0, s1, q⟩ := hh
    refine ⟨_, (pss_cons (ps_set (i := 2) sc__law_mix.nd rfl (by first | exact Or.inl rfl | exact Or.inr rfl) (pv 1)) (pss_cons (ps_for PassesOwn.never rfl (show PI _ _ _ (iList K _) from pi_list (pv 0)) (pg_name (i := 3) sc__law_mix.nd rfl (by first | exact Or.inl rfl | exact Or.inr rfl)) (pss_one (ps_set (i := 2) sc__law_mix.nd rfl (by first | exact Or.inl rfl | exact Or.inr rfl) (pe_op op_modN (pe_callTy call_int1 rfl T.b_int bt_int (pa_cons (pe_op op_add (pe_op op_add (pe_op op_mul (pv 2) pe_int) (pe_op op_modN (pe_callTy call_int1 rfl T.b_int bt_int (pa_cons (pv 3) pa_nil)) pe_int)) pe_int) pa_nil)) pe_int)))) (pss_one (ps_ret (pe_lst (pa_cons (pv 2) (pa_cons (pe_callTy call_list_of rfl T.b_list bt_list (pa_cons (pv 0) pa_nil)) (pa_cons pe_int pa_nil)))))))), ?_⟩
    walk_at "gx"
    refine lp_list ha (fun i σ H' => H' = H ∧ ∃ st v, σ = [some (.ref a), some (.int sd), some (.int st), v] ∧ 0 ≤ st ∧ st < 2147483647) ⟨rfl, sd, none, rfl, s0, s1⟩ (fun i σ H' _ p => by rw [p.1]; exact ha) ?_ ?_
    · rintro i x σ H' hi ⟨rfl, st, v, rfl, t0, t1⟩
      obtain ⟨z, rfl, hz⟩ := take_intsV hi
      walk_at "gx"
      refine w_I (.inr ⟨by decide, by decide⟩) ?_
      walk_at "gx"
      refine w_I (by decide) ?_
      walk_at "gx"
      refine w_I (by decide) ?_
      walk_at "gx"
      exact ⟨rfl, _, _, rfl, fmod_rng _ (by decide)⟩
    · rintro σ H' ⟨rfl, st, v, rfl, t0, t1⟩
      walk_at "gx"
      refine ⟨_, _, rfl, .inl ha, fun p n => ?_⟩
      generalize hE : upd H' p _ = H1; obtain ⟨k1, g1⟩ := updN n hE
      walk_at "gx"
      refine ⟨small (by simp), fun p2 n2 => ?_⟩
      generalize hE2 : upd H1 p2 _ = H2; obtain ⟨k2, g2⟩ := updN n2 hE2
      refine q p2 p H2 (fun b u e => k2 _ _ (k1 _ _ e)) ⟨st, 0, ns, g2, k2 _ _ g1, fun z => ?_, t0, t1, hl⟩
      rw [z, g1] at n2
      cases n2
/-! #### the land cells -/
def CelIn (rows : List Str) (W : Nat) (L : LK) : Prop := ∀ q ∈ L, ∃ r c : Int, q.2 = [r, c] ∧ 0 ≤ r ∧ r < rows.length ∧ 0 ≤ c ∧ c < W
theorem CelIn.nil {rows : List Str} {W : Nat} : CelIn rows W [] := fun p hp => by cases hp
theorem CelIn.app {rows : List Str} {W : Nat} {L M : LK} (h1 : CelIn rows W L) (h2 : CelIn rows W M) : CelIn rows W (L ++ M) := fun p hp => (List.mem_append.mp hp).elim (h1 p) (h2 p)
def spCells (K : PySem.W.Frag) : Sp := fun vs H Q _ => ∃ (a : Addr) (rows : List Str) (W : Nat), vs = [.ref a] ∧ SqT K H a (rows.map V.str) ∧ Isl rows W ∧
  ∀ p H' (L : LK), H p = none → Same H H' → H' p = some (.lst (refs L)) → Cel K H' L → CelIn rows W L → L.length ≤ 16 → (∀ r c : Int, signAt rows r c ≠ 126 → [r, c] ∈ L.map (·.2)) → Q (.ref p) H'
theorem ne_sg {c : Nat} : (V.str (sg c) = V.str ("~" : Str)) ↔ c = 126 := by
  constructor
  · intro h
    injection h with h
    have z : #[c] = #[126] := congrArg Str.cps h
    simpa using z
  · intro h
    rw [h]
    rfl
abbrev s__law_cells : Stmt := top 50
theorem sc__law_cells : FnScope ["_law_rows_here", "_law_found", "_law_row", "_law_column"] ["_law_rows_here"] (defScope s__law_cells) := ⟨rfl, rfl, rfl, by decide +kernel, rfl, by decide +kernel, by decide +kernel⟩
theorem ok_cells (D : DefAt K mg "_law_cells" s__law_cells ["_law_rows_here"]) (T : Txt K mg) : DefOk P w K mg base CX0 1 "_law_cells" (spCells K) := by
  refine D.ok sc__law_cells (fun vs H Q E h => ?_) (fun f cdv A outer s H vs Q E hr hh => ?_)
  · obtain ⟨a, rows, W, rfl, _⟩ := h
    rfl
  · obtain ⟨a, rows, W, rfl, ha, I, q⟩ := hh
    have I4 := I.r4
    have I1 := I.r1
    have Iw := I.w4
    obtain ⟨z0, hz0, hw0⟩ : ∃ z, rows[(0 : Int).toNat]? = some z ∧ z.cps.size = W := by
      have l : 0 < rows.length := I1
      exact ⟨rows[0], List.getElem?_eq_getElem l, I.wide _ (List.getElem_mem l)⟩
    refine ⟨_, (pss_cons (ps_set (i := 1) sc__law_cells.nd rfl (by first | exact Or.inl rfl | exact Or.inr rfl) (pe_lst pa_nil)) (pss_cons (ps_for PassesOwn.never rfl (pi_range1 rfl T.b_range (pa_cons (pe_callB (show CallR _ _ (rLen K) from call_lenK) rfl T.b_len bt_len (pa_cons (pv 0) pa_nil)) pa_nil)) (pg_name (i := 2) sc__law_cells.nd rfl (by first | exact Or.inl rfl | exact Or.inr rfl)) (pss_one (ps_set (i := 1) sc__law_cells.nd rfl (by first | exact Or.inl rfl | exact Or.inr rfl) (pe_op op_cat (pv 1) (pe_lc (own := [("_law_column", 3)]) rfl sc__law_cells.nd (pi_range1 rfl T.b_range (pa_cons (pe_callB call_len_str rfl T.b_len bt_len (pa_cons (pe_ix (show IxR _ (rIxT K) from ix_tup) (pv 0) pe_int (fun _ _ => rfl)) pa_nil)) pa_nil)) (blkOk_by (own := [("_law_column", 3)]) (N := ["_law_rows_here", "_law_found", "_law_row", "_law_column"]) (sc := defScope s__law_cells) (by decide +kernel)) (fun _ _ _ _ _ => (pg_name (i := 3) sc__law_cells.nd rfl (by first | exact Or.inl rfl | exact Or.inr rfl))) (fun _ _ _ _ _ => pts_one (pt_cmpR op_ne (pe_ix ix_str (pe_ix (show IxR _ (rIxT K) from ix_tup) (pv 0) (pv 2) (fun _ _ => rfl)) (pv 3) (fun _ _ => rfl)) pe_str (nomark _))) (fun _ _ _ _ _ => (pe_tup (pa_cons (pv 2) (pa_cons (pv 3) pa_nil))))))))) (pss_one (ps_ret (pv 1))))), ?_⟩
    walk_at "gx"
    refine ⟨small (by simp), fun p1 n1 => ?_⟩
    generalize hE1 : upd H p1 _ = H1; obtain ⟨k1, g1⟩ := updN n1 hE1
    walk_at "gx"
    refine lp_rng1 (n := rows.length) (by rw [List.length_map]) (by omega) (fun i σ H' => ∃ p v v' L, σ = [some (.ref a), some (.ref p), v, v'] ∧ H p = none ∧ Same H H' ∧ H' p = some (.lst (refs L)) ∧ Cel K H' L ∧ CelIn rows W L ∧ L.length ≤ 4 * i ∧
      ∀ r c : Int, r < i → signAt rows r c ≠ 126 → [r, c] ∈ L.map (·.2)) ⟨p1, none, none, [], rfl, n1, k1, g1, Cel.nil, CelIn.nil, Nat.le_refl _, fun r c h1 h2 => absurd (signAt_in I h2).1 (by omega)⟩ ?_ ?_
    · rintro i σ H2 hi ⟨p, v, v', L, rfl, np, sm, gp, cl, ci, ll, al⟩
      have a2 := Same.seqT sm ha
      walk_at "gx"
      refine w_ixT a2 (row_at (by decide) hz0) ?_
      walk_at "gx"
      refine ⟨small (by rw [zlen]; omega), ?_⟩
      rw [zlen, hw0]
      walk_at "gx"
      refine lc_rng (n := W) rfl (by omega) (fun j D H3 => H2 D = none ∧ Same H2 H3 ∧ ∃ M : LK, H3 D = some (.lst (refs M)) ∧ Cel K H3 M ∧ CelIn rows W M ∧ M.length ≤ j ∧ ∀ c : Int, c < j → signAt rows i c ≠ 126 → [(i : Int), c] ∈ M.map (·.2))
        (fun D hD => ⟨hD, Same.updD (Same.refl _) hD, [], upd_same, Cel.nil, CelIn.nil, Nat.le_refl _, fun c h1 h2 => absurd (signAt_in I h2).2.2.1 (by omega)⟩) ?_ ?_
      · rintro j D H3 hj ⟨hD, s3, M, gM, cM, iM, lM, aM⟩
        walk_at "gx"
        refine ⟨rfl, ?_⟩
        walk_at "gx"
        obtain ⟨z, hz, hw, hcv⟩ := signAt_here (x := (i : Int)) (y := (j : Int)) I (by omega) (by omega) (by omega) (by omega)
        refine w_ixT (Same.seqT s3 a2) (row_at (by omega) hz) ?_
        walk_at "gx"
        refine w_ixS (small (by rw [zlen]; omega)) (chr_at (by omega) hcv) ?_
        walk_at "gx"
        refine itend (fun hc => ?_) (fun hc => ?_)
        · walk_at "gx"
          refine ⟨small (by simp), fun p4 n4 => ?_⟩
          generalize hE4 : upd H3 p4 _ = H4; obtain ⟨k4, g4⟩ := updN n4 hE4
          have gM4 := k4 _ _ gM
          refine ⟨_, gM4, smallL (by rw [refs_len]; omega), hD, Same.updD (fun b u e => k4 _ _ (s3 _ _ e)) hD, M ++ [(p4, [(i : Int), (j : Int)])], by rw [upd_same, refs_snoc], Cel.updL gM4 ((Cel.same k4 cM).snoc (SqT.of g4)), iM.app fun q hq => ?_, by rw [List.length_append]; simp; omega, fun c h1 h2 => ?_⟩
          · rw [List.mem_singleton.mp hq]
            exact ⟨_, _, rfl, by omega, by omega, by omega, by omega⟩
          · rw [List.map_append, List.mem_append]
            by_cases e : c = j
            · rw [e]
              exact .inr (by simp)
            · exact .inl (aM c (by omega) h2)
        · refine ⟨hD, s3, M, gM, cM, iM, by omega, fun c h1 h2 => ?_⟩
          by_cases e : c = j
          · rw [e] at h2
            exact absurd (ne_sg.mp hc) h2
          · exact aM c (by omega) h2
      · rintro D H3 ⟨hD, s3, M, gM, cM, iM, lM, aM⟩
        walk_at "gx"
        refine w_cat (s3 _ _ gp) gM (small (by rw [refs_len, refs_len]; omega)) fun p5 H5 n5 k5 g5 => ?_
        walk_at "gx"
        refine ⟨p5, _, _, L ++ M, rfl, ?_, fun b u e => k5 _ _ (s3 _ _ (sm _ _ e)), by rw [← refs_app]; exact g5, (Cel.same (fun b u e => k5 _ _ (s3 _ _ e)) cl).app (Cel.same k5 cM), ci.app iM, by rw [List.length_append]; omega, fun r c h1 h2 => ?_⟩
        · cases e : H p5 with
          | none => rfl
          | some u =>
            rw [s3 _ _ (sm _ _ e)] at n5
            cases n5
        · rw [List.map_append, List.mem_append]
          by_cases e : r = i
          · rw [e] at h2 ⊢
            exact .inr (aM c (by have := (signAt_in I h2).2.2.2; omega) h2)
          · exact .inl (al r c (by omega) h2)
    · rintro σ H2 ⟨p, v, v', L, rfl, np, sm, gp, cl, ci, ll, al⟩
      walk_at "gx"
      exact q p H2 L np sm gp cl ci (by omega) fun r c h => al r c (signAt_in I h).2.1 h
end
end
section
/-- the states of an island -/
def U64 : List (List Int) := (List.range 64).map fun n => [((n / 16 : Nat) : Int), ((n / 4 % 4 : Nat) : Int), ((n % 4 : Nat) : Int)]
theorem U64_len : U64.length ≤ 64 := by decide
theorem mem_U64 {r c f : Int} (h1 : 0 ≤ r ∧ r < 4) (h2 : 0 ≤ c ∧ c < 4) (h3 : 0 ≤ f ∧ f < 4) : [r, c, f] ∈ U64 := by
  refine List.mem_map.mpr ⟨(r * 16 + c * 4 + f).toNat, List.mem_range.mpr (by omega), ?_⟩
  have e1 : (((r * 16 + c * 4 + f).toNat / 16 : Nat) : Int) = r := by omega
  have e2 : (((r * 16 + c * 4 + f).toNat / 4 % 4 : Nat) : Int) = c := by omega
  have e3 : (((r * 16 + c * 4 + f).toNat % 4 : Nat) : Int) = f := by omega
  rw [e1, e2, e3]
theorem of_U64 {k : List Int} (h : k ∈ U64) : ∃ r c f : Int, k = [r, c, f] ∧ (0 ≤ r ∧ r < 4) ∧ (0 ≤ c ∧ c < 4) ∧ 0 ≤ f ∧ f < 4 := by
  obtain ⟨n, hn, rfl⟩ := List.mem_map.mp h
  have := List.mem_range.mp hn
  exact ⟨_, _, _, rfl, by omega, by omega, by omega⟩
/-- one step along one axis -/
theorem dir_cases (f : Int) : (dxOf f = -1 ∧ dyOf f = 0) ∨ (dxOf f = 0 ∧ dyOf f = 1) ∨ (dxOf f = 1 ∧ dyOf f = 0) ∨ (dxOf f = 0 ∧ dyOf f = -1) := by
  unfold dxOf dyOf
  have h4 : f % 4 = 0 ∨ f % 4 = 1 ∨ f % 4 = 2 ∨ f % 4 = 3 := by omega
  rcases h4 with e | e | e | e <;> simp [e]
/-- how many cells lie ahead at most -/
def ahead (R W : Nat) (f x y : Int) : Nat := if 0 ≤ x ∧ x < R ∧ 0 ≤ y ∧ y < W then (if dxOf f = -1 then x.toNat + 1 else if dxOf f = 1 then R - x.toNat else if dyOf f = 1 then W - y.toNat else y.toNat + 1) else 0
theorem ahead_le {R W : Nat} (h1 : R ≤ 4) (h2 : W ≤ 4) (f x y : Int) : ahead R W f x y ≤ 4 := by
  unfold ahead
  split
  · split
    · omega
    · split
      · omega
      · split <;> omega
  · omega
theorem ahead_on {R W : Nat} {f x y : Int} (h : 0 ≤ x ∧ x < R ∧ 0 ≤ y ∧ y < W) : ahead R W f (x + dxOf f) (y + dyOf f) < ahead R W f x y := by
  have e : ahead R W f x y = (if dxOf f = -1 then x.toNat + 1 else if dxOf f = 1 then R - x.toNat else if dyOf f = 1 then W - y.toNat else y.toNat + 1) := by
    unfold ahead
    rw [if_pos h]
  rw [e]
  unfold ahead
  rcases dir_cases f with ⟨a, b⟩ | ⟨a, b⟩ | ⟨a, b⟩ | ⟨a, b⟩ <;> rw [a, b] <;> simp <;> split <;> omega
section
variable {P : Program} {w : World} {K : PySem.W.Frag} {mg : Str → Option Value} {base : Heap}
/-! #### the cells ahead -/
def spLine (K : PySem.W.Frag) : Sp := fun vs H Q _ => ∃ (a c : Addr) (rows : List Str) (W : Nat) (x y f : Int) (r : List Int), vs = [.ref a, .ref c, .int f] ∧ SqT K H a (rows.map V.str) ∧ Isl rows W ∧ TI2 K H c (x :: y :: r) ∧
  ∀ p H' (L : LK), H p = none → Same H H' → H' p = some (.lst (refs L)) → Cel K H' L → CelIn rows W L → L.length ≤ 4 → Q (.ref p) H'
theorem none_back {H H' : Hp} {p : Addr} (s : Same H H') (n : H' p = none) : H p = none := by
  cases e : H p with
  | none => rfl
  | some u => rw [s _ _ e] at n; cases n
abbrev s__law_line : Stmt := top 52
theorem sc__law_line : FnScope ["_law_rows_here", "_law_cell", "_law_facing", "_law_found"] ["_law_rows_here", "_law_cell", "_law_facing"] (defScope s__law_line) := ⟨rfl, rfl, rfl, by decide +kernel, rfl, by decide +kernel, by decide +kernel⟩
theorem ok_line (D : DefAt K mg "_law_line" s__law_line ["_law_rows_here", "_law_cell", "_law_facing"]) (T : Txt K mg) (D__law_on : DefOk P w K mg base CX0 1 "_law_on" (spOn K)) : DefOk P w K mg base CX0 2 "_law_line" (spLine K) := by
  refine D.ok sc__law_line (fun vs H Q E h => ?_) (fun f cdv A outer s H vs Q E hr hh => ?_)
  · obtain ⟨a, c, rows, W, x, y, f, r, rfl, _⟩ := h
    rfl
  · obtain ⟨a, c, rows, W, x, y, f, r, rfl, ha, I, hc, q⟩ := hh
    have I4 := I.r4
    have Iw := I.w4
    obtain ⟨z0, hz0, hw0⟩ : ∃ z, rows[(0 : Int).toNat]? = some z ∧ z.cps.size = W := by
      have l : 0 < rows.length := I.r1
      exact ⟨rows[0], List.getElem?_eq_getElem l, I.wide _ (List.getElem_mem l)⟩
    refine ⟨_, (pss_cons (ps_par (i := 3) (j := 1) rfl sc__law_line.nd rfl rfl (by decide) rfl rfl (pa_cons (pe_lst pa_nil) (pa_cons (pe_c D__law_on (hr.mono (by decide)) pass0 (pa_cons (pv 1) (pa_cons (pv 2) pa_nil))) pa_nil)) (by rfl)) (pss_cons (ps_while PassesOwn.never (PW.pt (pw_and (pt_chain op_le op_lt pe_int (pe_ix (show IxR _ (rIxT K) from ix_tup) (pv 1) pe_int (fun _ _ => rfl)) (pe_callB (show CallR _ _ (rLen K) from call_lenK) rfl T.b_len bt_len (pa_cons (pv 0) pa_nil))) (pw_and1 (pt_chain op_le op_lt pe_int (pe_ix (show IxR _ (rIxT K) from ix_tup) (pv 1) pe_int (fun _ _ => rfl)) (pe_callB call_len_str rfl T.b_len bt_len (pa_cons (pe_ix (show IxR _ (rIxT K) from ix_tup) (pv 0) pe_int (fun _ _ => rfl)) pa_nil)))))) (pss_cons (ps_expr (pe_bm PySem.F.plainAttrs_list PySem.F.slot_list_append PySem.F.type_list_append mt_append (pv 3) (pa_cons (pv 1) pa_nil))) (pss_one (ps_set (i := 1) sc__law_line.nd rfl (by first | exact Or.inl rfl | exact Or.inr rfl) (pe_c D__law_on (hr.mono (by decide)) pass0 (pa_cons (pv 1) (pa_cons (pv 2) pa_nil))))))) (pss_one (ps_ret (pv 3))))), ?_⟩
    walk_at "gx"
    refine ⟨small (by simp), fun p1 n1 => ?_⟩
    generalize hE1 : upd H p1 _ = H1; obtain ⟨k1, g1⟩ := updN n1 hE1
    walk_at "gx"
    refine ⟨c, x, y, f, r, rfl, by walk_at "sq", fun c1 H2 m1 k2 g2 => ?_⟩
    walk_at "gx"
    refine ⟨_, _, rfl, ?_⟩
    walk_at "gx"
    refine w_while (fun m σ H' => ∃ (c' : Addr) (x' y' : Int) (L : LK), σ = [some (.ref a), some (.ref c'), some (.int f), some (.ref p1)] ∧ Same H H' ∧ H' p1 = some (.lst (refs L)) ∧ Cel K H' L ∧ CelIn rows W L ∧ TI2 K H' c' [x', y'] ∧ m = ahead rows.length W f x' y' ∧ L.length + m ≤ 4)
      (ahead rows.length W f (x + dxOf f) (y + dyOf f)) ⟨c1, _, _, [], rfl, fun b u e => k2 _ _ (k1 _ _ e), k2 _ _ g1, Cel.nil, CelIn.nil, SqT.of g2, rfl, by have := ahead_le I4 Iw f (x + dxOf f) (y + dyOf f); simpa using this⟩ ?_
    rintro m σ H3 ⟨c', x', y', L, rfl, sm, gL, cl, ci, hc', rfl, lm⟩
    have fin : Q (.ref p1) H3 := q p1 H3 L n1 sm gL cl ci (by omega)
    walk_at "gx"
    refine ited (fun hx0 => ?_) (fun hx0 => ?_)
    · walk_at "gx"
      refine ited (fun hx1 => ?_) (fun hx1 => ?_)
      · walk_at "gx"
        refine ited (fun hy0 => ?_) (fun hy0 => ?_)
        · walk_at "gx"
          refine w_ixT (Same.seqT sm ha) (row_at (by decide) hz0) ?_
          walk_at "gx"
          refine ⟨small (by rw [zlen]; omega), ?_⟩
          rw [zlen, hw0]
          walk_at "gx"
          refine ited (fun hy1 => ?_) (fun hy1 => ?_)
          · refine ⟨_, fun σ' H' h => h, ?_⟩
            rw [List.length_map] at hx1
            walk_at "gx"
            refine ⟨.inl ⟨rfl, _, SqL.of gL⟩, ?_⟩
            walk_at "gx"
            refine w_app gL (smallL (by rw [refs_len]; omega)) ?_
            generalize hE4 : upd H3 p1 _ = H4
            have g4 : H4 p1 = some (.lst (refs (L ++ [(c', [x', y'])]))) := by rw [← hE4, upd_same, refs_snoc]
            have s4 : Same H H4 := by rw [← hE4]; exact Same.updD sm n1
            have c4 : Cel K H4 (L ++ [(c', [x', y'])]) := by rw [← hE4]; exact Cel.updL gL (cl.snoc hc')
            have t4 : TI2 K H4 c' [x', y'] := by rw [← hE4]; exact SqT.updL gL hc'
            walk_at "gx"
            refine ⟨c', x', y', f, [], rfl, t4, fun c2 H5 m5 k5 g5 => ?_⟩
            walk_at "gx"
            have lt := ahead_on (f := f) (R := rows.length) (W := W) ⟨hx0, hx1, hy0, hy1⟩
            refine ⟨_, lt, c2, _, _, L ++ [(c', [x', y'])], rfl, fun b u e => k5 _ _ (s4 _ _ e), k5 _ _ g4, Cel.same k5 c4, ci.app fun q hq => ?_, SqT.of g5, rfl, by rw [List.length_append]; simp; omega⟩
            rw [List.mem_singleton.mp hq]
            exact ⟨x', y', rfl, hx0, hx1, hy0, hy1⟩
          · walk_at "gx"
            exact fin
        · walk_at "gx"
          exact fin
      · walk_at "gx"
        exact fin
    · walk_at "gx"
      exact fin
end
end
section
section
variable {P : Program} {w : World} {K : PySem.W.Frag} {mg : Str → Option Value} {base : Heap}
/-! #### along the shore -/
def spShore (K : PySem.W.Frag) : Sp := fun vs H Q _ => ∃ (a s : Addr) (rows : List Str) (W : Nat) (r c f d : Int), vs = [.ref a, .ref s, .int d] ∧ SqT K H a (rows.map V.str) ∧ Isl rows W ∧ TI2 K H s [r, c, f] ∧ -10 ≤ d ∧ d ≤ 10 ∧
  (∀ H', Same H H' → Q .non H') ∧ ∀ p H' k, Same H H' → TI2 K H' p k → k ∈ U64 → Q (.ref p) H'
abbrev s__law_shore : Stmt := top 53
theorem sc__law_shore : FnScope ["_law_rows_here", "_law_state", "_law_side", "_law_cell", "_law_facing", "_law_turn"] ["_law_rows_here", "_law_state", "_law_side"] (defScope s__law_shore) := ⟨rfl, rfl, rfl, by decide +kernel, rfl, by decide +kernel, by decide +kernel⟩
theorem ok_shore (D : DefAt K mg "_law_shore" s__law_shore ["_law_rows_here", "_law_state", "_law_side"]) (T : Txt K mg) (D__law_on : DefOk P w K mg base CX0 1 "_law_on" (spOn K)) (D__law_sign : DefOk P w K mg base CX0 1 "_law_sign" (spSign K)) : DefOk P w K mg base CX0 2 "_law_shore" (spShore K) := by
  refine D.ok sc__law_shore (fun vs H Q E h => ?_) (fun fa cdv A outer s0 H vs Q E hr hh => ?_)
  · obtain ⟨a, s, rows, W, r, c, f, d, rfl, _⟩ := h
    rfl
  · obtain ⟨a, s, rows, W, r, c, f, d, rfl, ha, I, hs, d0, d1, qn, qs⟩ := hh
    have I4 := I.r4
    have Iw := I.w4
    refine ⟨_, (pss_cons (ps_par (i := 3) (j := 4) rfl sc__law_shore.nd rfl rfl (by decide) rfl rfl (pa_cons (pe_slice (show SlR _ (rSlA K) from sl_tupA) (pv 1) po_none (po_some pe_int)) (pa_cons (pe_ix (show IxR _ (rIxT K) from ix_tup) (pv 1) pe_int (fun _ _ => rfl)) pa_nil)) (by rfl)) (pss_cons (ps_for PassesOwn.never rfl (show PI _ _ _ (iTup K _) from pi_tup (pe_tup (pa_cons (pv 2) (pa_cons pe_int (pa_cons (pe_op op_sub pe_int (pv 2)) (pa_cons (pe_op op_sub pe_int (pe_op op_mul pe_int (pv 2))) (pa_cons (pe_op op_sub pe_int (pe_op op_mul pe_int (pv 2))) pa_nil))))))) (pg_name (i := 5) sc__law_shore.nd rfl (by first | exact Or.inl rfl | exact Or.inr rfl)) (pss_one (ps_if (pt_cmpR op_ne (pe_c D__law_sign (hr.mono (by decide)) pass0 (pa_cons (pv 0) (pa_cons (pe_c D__law_on (hr.mono (by decide)) pass0 (pa_cons (pv 3) (pa_cons (pe_op op_add (pv 4) (pv 5)) pa_nil))) pa_nil))) pe_str (nomark _)) (pss_one (ps_ret (pe_op (show OpR _ (binaryOp .Add) (rCatA K) from op_catA) (pe_c D__law_on (hr.mono (by decide)) pass0 (pa_cons (pv 3) (pa_cons (pe_op op_add (pv 4) (pv 5)) pa_nil))) (pe_tup (pa_cons (pe_op op_modN (pe_callTy call_int1 rfl T.b_int bt_int (pa_cons (pe_op op_add (pv 4) (pv 5)) pa_nil)) pe_int) pa_nil))))) pss_nil))) (pss_one (ps_ret pe_non)))), ?_⟩
    walk_at "gx"
    refine w_slA hs fun cp H1 k1 hc => ?_
    have hc' : TI2 K H1 cp [r, c] := hc
    walk_at "gx"
    refine ⟨_, _, rfl, ?_⟩
    walk_at "gx"
    refine w_I (.inr ⟨by omega, by omega⟩) ?_
    walk_at "gx"
    refine w_I (.inr ⟨by omega, by omega⟩) ?_
    walk_at "gx"
    refine ⟨small (by simp), fun tp nt => ?_⟩
    generalize hE2 : upd H1 tp _ = H2; obtain ⟨k2, g2⟩ := updN nt hE2
    walk_at "gx"
    refine lp_tup (SqT.of g2) (fun i σ H' => ∃ v, σ = [some (.ref a), some (.ref s), some (.int d), some (.ref cp), some (.int f), v] ∧ Same H2 H') ⟨none, rfl, Same.refl _⟩ (fun i σ H' _ p => by obtain ⟨v, _, e⟩ := p; exact Same.seqT e (SqT.of g2)) ?_ ?_
    · rintro i x σ H3 hi ⟨v, rfl, k3⟩
      obtain ⟨t, rfl⟩ : ∃ t : Int, x = .int t := by
        have m := List.mem_of_getElem? hi
        simp only [List.mem_cons, List.mem_nil_iff, or_false] at m
        rcases m with e | e | e | e | e <;> exact ⟨_, e⟩
      have sm : Same H H3 := fun b u e => k3 _ _ (k2 _ _ (k1 _ _ e))
      have hc3 : TI2 K H3 cp [r, c] := Same.seqT k3 (Same.seqT k2 hc')
      walk_at "gx"
      refine ⟨cp, r, c, f + t, [], rfl, hc3, fun c4 H4 m4 k4 g4 => ?_⟩
      walk_at "gx"
      refine ⟨a, c4, rows, W, r + dxOf (f + t), c + dyOf (f + t), [], rfl, Same.seqT k4 (Same.seqT sm ha), I, SqT.of g4, ?_⟩
      walk_at "gx"
      refine itend (fun hw => ?_) (fun hw => ?_)
      · walk_at "gx"
        refine ⟨cp, r, c, f + t, [], rfl, Same.seqT k4 hc3, fun c5 H5 m5 k5 g5 => ?_⟩
        walk_at "gx"
        refine w_I (by decide) ?_
        walk_at "gx"
        refine ⟨small (by simp), fun p6 n6 => ?_⟩
        generalize hE6 : upd H5 p6 _ = H6; obtain ⟨k6, g6⟩ := updN n6 hE6
        refine w_catA (SqT.of (k6 _ _ g5)) (SqT.of g6) (small (by simp)) fun p7 H7 k7 h7 => ?_
        have fm : (f + t).fmod 4 = (f + t) % 4 := Int.fmod_eq_emod_of_nonneg _ (by decide)
        have nw : signAt rows (r + dxOf (f + t)) (c + dyOf (f + t)) ≠ 126 := fun e => hw (ne_sg.mpr e)
        obtain ⟨b1, b2, b3, b4⟩ := signAt_in I nw
        walk_at "gx"
        refine qs p7 H7 [r + dxOf (f + t), c + dyOf (f + t), (f + t) % 4] (fun b u e => k7 _ _ (k6 _ _ (k5 _ _ (k4 _ _ (sm _ _ e))))) ?_ (mem_U64 (by omega) (by omega) (by omega))
        rw [← fm]
        exact h7
      · walk_at "gx"
        exact fun b u e => k4 _ _ (k3 _ _ e)
    · rintro σ H3 ⟨v, rfl, k3⟩
      walk_at "gx"
      exact qn H3 fun b u e => k3 _ _ (k2 _ _ (k1 _ _ e))
end
end
section
/-! ### values that read as data -/
/-- data of depth n at most, whose texts are texts -/
def Shp : Nat → PyData → Prop
  | _, .none => True
  | _, .bool _ => True
  | _, .int _ => True
  | _, .str x => PyData.canLay0 (.str x) = true
  | 0, .list _ => False
  | 0, .tuple _ => False
  | n + 1, .list xs => ∀ x ∈ xs, Shp n x
  | n + 1, .tuple xs => ∀ x ∈ xs, Shp n x
  | _, .dict _ => False
theorem canAll {xs : List PyData} (h : ∀ x ∈ xs, x.canLay0 = true) : PyData.canLayAll0 xs = true := by
  induction xs with
  | nil => simp [PyData.canLayAll0]
  | cons x xs ih =>
    rw [PyData.canLayAll0, h x List.mem_cons_self, ih fun y hy => h y (List.mem_cons_of_mem _ hy)]
    rfl
theorem depAll {xs : List PyData} {n : Nat} (h : ∀ x ∈ xs, x.depth ≤ n) : PyData.depthAll xs ≤ n := by
  induction xs with
  | nil => simp [PyData.depthAll]
  | cons x xs ih =>
    rw [PyData.depthAll]
    exact Nat.max_le.mpr ⟨h x List.mem_cons_self, ih fun y hy => h y (List.mem_cons_of_mem _ hy)⟩
theorem Shp.ok : ∀ {n : Nat} {d : PyData}, Shp n d → d.canLay0 = true ∧ d.depth ≤ n := by
  intro n
  induction n with
  | zero =>
    intro d h
    cases d with
    | none => exact ⟨by simp [PyData.canLay0], by simp [PyData.depth]⟩
    | bool b => exact ⟨by simp [PyData.canLay0], by simp [PyData.depth]⟩
    | int i => exact ⟨by simp [PyData.canLay0], by simp [PyData.depth]⟩
    | str x => exact ⟨h, by simp [PyData.depth]⟩
    | list xs => exact False.elim h
    | tuple xs => exact False.elim h
    | dict kvs => exact False.elim h
  | succ n ih =>
    intro d h
    cases d with
    | none => exact ⟨by simp [PyData.canLay0], by simp [PyData.depth]⟩
    | bool b => exact ⟨by simp [PyData.canLay0], by simp [PyData.depth]⟩
    | int i => exact ⟨by simp [PyData.canLay0], by simp [PyData.depth]⟩
    | str x => exact ⟨h, by simp [PyData.depth]⟩
    | list xs =>
      have h' : ∀ x ∈ xs, Shp n x := h
      exact ⟨by rw [PyData.canLay0]; exact canAll fun x hx => (ih (h' x hx)).1, by rw [PyData.depth]; exact Nat.succ_le_succ (depAll fun x hx => (ih (h' x hx)).2)⟩
    | tuple xs =>
      have h' : ∀ x ∈ xs, Shp n x := h
      exact ⟨by rw [PyData.canLay0]; exact canAll fun x hx => (ih (h' x hx)).1, by rw [PyData.depth]; exact Nat.succ_le_succ (depAll fun x hx => (ih (h' x hx)).2)⟩
    | dict kvs => exact False.elim h
theorem Shp.shaped {n : Nat} {d : PyData} (h : Shp n d) (hn : n ≤ 64) : SeqAt.shaped d = true := by
  obtain ⟨h1, h2⟩ := h.ok
  unfold SeqAt.shaped
  rw [h1, decide_eq_true (Nat.le_trans h2 hn)]
  rfl
section
variable {K : PySem.W.Frag} {H H' : Hp}
theorem dp_map {α : Type} {f : α → V} {g : α → PyData} : ∀ {l : List α}, (∀ x ∈ l, Dp K H (f x) (g x)) → DpAll K H (l.map f) (l.map g)
  | [], _ => .nil
  | x :: l, h => .cons (h x List.mem_cons_self) (dp_map fun y hy => h y (List.mem_cons_of_mem _ hy))
mutual
theorem Dp.same (s : Same H H') : ∀ {v : V} {d : PyData}, Dp K H v d → Dp K H' v d
  | _, _, .non => .non
  | _, _, .bl b => .bl b
  | _, _, .int i => .int i
  | _, _, .str x => .str x
  | _, _, .lst h1 h2 => .lst (Same.seq s h1) (DpAll.same s h2)
  | _, _, .tup h1 h2 => .tup (Same.seqT s h1) (DpAll.same s h2)
theorem DpAll.same (s : Same H H') : ∀ {vs : List V} {ds : List PyData}, DpAll K H vs ds → DpAll K H' vs ds
  | _, _, .nil => .nil
  | _, _, .cons h1 h2 => .cons (Dp.same s h1) (DpAll.same s h2)
end
theorem eqv_nil (ds : List PyData) : PyData.eqv (.list ds) (.list []) = ds.isEmpty := by
  cases ds <;> simp [PyData.eqv, PyData.eqvAll]
/-- xs != [] of a list -/
theorem w_neNil {p q : Addr} {ds : List PyData} {n : Nat} {Q : VK} (h1 : Dp K H (.ref p) (.list ds)) (h2 : H q = some (.lst [])) (hs : Shp n (.list ds)) (hn : n ≤ 64) (k : Q (.bl (!ds.isEmpty)) H) : rNeD K (.ref p) (.ref q) H Q := by
  refine ⟨_, _, h1, .lst (SqL.of h2) .nil, hs.shaped hn, Shp.shaped (n := 1) (fun x hx => by cases hx) (by decide), ?_⟩
  rw [eqv_nil]
  exact k
theorem w_eqNil {p q : Addr} {ds : List PyData} {n : Nat} {Q : VK} (h1 : Dp K H (.ref p) (.list ds)) (h2 : H q = some (.lst [])) (hs : Shp n (.list ds)) (hn : n ≤ 64) (k : Q (.bl ds.isEmpty) H) : rEqD K (.ref p) (.ref q) H Q := by
  refine ⟨_, _, h1, .lst (SqL.of h2) .nil, hs.shaped hn, Shp.shaped (n := 1) (fun x hx => by cases hx) (by decide), ?_⟩
  rw [eqv_nil]
  exact k
theorem dp_ints {p : Addr} {ns : List Int} (h : SqL K H p (ns.map V.int)) : Dp K H (.ref p) (.list (ns.map .int)) := .lst h (dp_map fun x _ => .int x)
theorem shp_ints (ns : List Int) : Shp 1 (.list (ns.map .int)) := fun x hx => by
  obtain ⟨i, _, rfl⟩ := List.mem_map.mp hx
  exact True.intro
theorem dp_cells {p : Addr} {L : LK} (h : SqL K H p (refs L)) (c : Cel K H L) : Dp K H (.ref p) (.list (L.map fun q => .tuple (q.2.map .int))) :=
  .lst h (dp_map fun q hq => .tup (c q hq) (dp_map fun x _ => .int x))
theorem shp_cells (L : LK) : Shp 2 (.list (L.map fun q => .tuple (q.2.map .int))) := fun x hx => by
  obtain ⟨q, _, rfl⟩ := List.mem_map.mp hx
  exact fun y hy => by
    obtain ⟨i, _, rfl⟩ := List.mem_map.mp hy
    exact True.intro
theorem cut_refs (L : LK) (lo hi : Option Int) : ∃ M : LK, cutV (refs L) lo hi = refs M ∧ (∀ q ∈ M, q ∈ L) ∧ M.length ≤ L.length := by
  unfold cutV refs
  generalize HT.sIx (L.map fun p => V.ref p.1).length 0 lo = a
  generalize HT.sIx (L.map fun p => V.ref p.1).length (L.map fun p => V.ref p.1).length hi - a = b
  refine ⟨(L.drop a).take b, by rw [List.map_take, List.map_drop], fun q hq => List.mem_of_mem_drop (List.mem_of_mem_take hq), ?_⟩
  rw [List.length_take, List.length_drop]
  omega
end
end
section
section
variable {P : Program} {w : World} {K : PySem.W.Frag} {mg : Str → Option Value} {base : Heap}
/-- an instruction of the drawing -/
inductive InD
  | turn (ts : List Int) | walk (l m : Int) | til (t : Bool) (z : Str) | beside (n : Int) (z : Str) | near (z : Str) (n : Int) | shore (s l m : Int)
def InOk : InD → Prop
  | .turn ts => 1 ≤ ts.length ∧ ts.length ≤ 4 ∧ ∀ t ∈ ts, 0 ≤ t ∧ t < 4
  | .walk l m => 0 ≤ l ∧ l ≤ m ∧ m ≤ 10
  | .til _ z => 1 ≤ z.cps.size ∧ z.cps.size ≤ 10 ∧ ∀ c ∈ z.cps.toList, c ∈ sgs
  | .beside n z => 0 ≤ n ∧ n ≤ 10 ∧ 1 ≤ z.cps.size ∧ z.cps.size ≤ 10 ∧ ∀ c ∈ z.cps.toList, c ∈ sgs
  | .near z n => 0 ≤ n ∧ n ≤ 10 ∧ 1 ≤ z.cps.size ∧ z.cps.size ≤ 10 ∧ ∀ c ∈ z.cps.toList, c ∈ sgs
  | .shore s l m => (s = 1 ∨ s = 3) ∧ 0 ≤ l ∧ l ≤ m ∧ m ≤ 10
def InAt (K : PySem.W.Frag) (H : Hp) (a : Addr) : InD → Prop
  | .turn ts => ∃ t, SqT K H a [.str "turn", .ref t] ∧ SqT K H t (ts.map V.int)
  | .walk l m => SqT K H a [.str "walk", .int l, .int m]
  | .til t z => SqT K H a [.str (if t then "until" else "toward"), .str z]
  | .beside n z => SqT K H a [.str "beside", .int n, .str z]
  | .near z n => SqT K H a [.str "near", .str z, .int n]
  | .shore s l m => SqT K H a [.str "shore", .int s, .int l, .int m]
theorem InAt.same {H H' : Hp} {a : Addr} {d : InD} (s : Same H H') (h : InAt K H a d) : InAt K H' a d := by
  cases d with
  | turn ts => obtain ⟨t, h1, h2⟩ := h; exact ⟨t, Same.seqT s h1, Same.seqT s h2⟩
  | _ => exact Same.seqT s h
def InW : InD → Str
  | .turn _ => "turn" | .walk _ _ => "walk" | .til t _ => if t then "until" else "toward" | .beside _ _ => "beside" | .near _ _ => "near" | .shore _ _ _ => "shore"
theorem InAt.head {H : Hp} {a : Addr} {d : InD} (h : InAt K H a d) : ∃ r, SqT K H a (.str (InW d) :: r) := by
  cases d with
  | turn ts => obtain ⟨t, h1, _⟩ := h; exact ⟨_, h1⟩
  | _ => exact ⟨_, h⟩
def LkU (L : LK) : Prop := ∀ q ∈ L, q.2 ∈ U64
theorem LkU.snoc {L : LK} {p : Addr} {k : List Int} (h : LkU L) (hk : k ∈ U64) : LkU (L ++ [(p, k)]) := fun q hq => (List.mem_append.mp hq).elim (h q) fun e => by
  rw [List.mem_singleton.mp e]
  exact hk
theorem wdT {a b : Str} {A B : Prop} (h : a = b) (k : A) : if decide (V.str a = V.str b) = true then A else B := ifT (decide_eq_true (by rw [h])) k
theorem wdF {a b : Str} {A B : Prop} (h : a ≠ b) (k : B) : if decide (V.str a = V.str b) = true then A else B := ifF (decide_eq_false fun e => h (by injection e)) k
theorem LkU.nil : LkU [] := fun q hq => by cases hq
/-- a state, or none -/
def StV (K : PySem.W.Frag) (H : Hp) (v : V) : Prop := v = .non ∨ ∃ p k, v = .ref p ∧ TI2 K H p k ∧ k ∈ U64
theorem StV.same {H H' : Hp} {v : V} (s : Same H H') (h : StV K H v) : StV K H' v := h.imp id fun ⟨p, k, e, t, u⟩ => ⟨p, k, e, Same.seqT s t, u⟩
/-- as far as the first water -/
theorem w_freeIf {σ : St} {H : Hp} {Q : VK} {fp lp : Addr} {ns : List Int} {A : LK} (e8 : σ[8]? = some (some (.ref fp))) (e7 : σ[7]? = some (some (.ref lp))) (hf : H fp = some (.lst (ns.map V.int))) (hl : H lp = some (.lst (refs A)))
    (hq : ∀ p H' (M : LK), Same H H' → H' p = some (.lst (refs M)) → (∀ q ∈ M, q ∈ A) → M.length ≤ A.length → Q (.ref p) H') :
    tIf (tTest (tOp (rNeD K) (tVar 8) (tLst tNil))) (tSl (rSlL K) (tVar 7) tNoPart (tPart (tOp (rIxL K) (tVar 8) (tC (.int 0))))) (tVar 7) σ H Q := by
  refine w_if (w_test (w_op (w_var e8 (w_lst (w_nil ⟨small (by simp), fun ep n6 => ?_⟩)))))
  generalize hE6 : upd H ep _ = H6; obtain ⟨k6, g6⟩ := updN n6 hE6
  refine w_neNil (dp_ints (SqL.of (k6 _ _ hf))) g6 (shp_ints ns) (by decide) ⟨_, rfl, ?_⟩
  cases ns with
  | nil => exact ifF rfl (w_var e7 (hq lp H6 A k6 (k6 _ _ hl) (fun _ h => h) (Nat.le_refl _)))
  | cons n ns =>
    refine ifT rfl (w_sl (w_var e7 (w_noPart (w_part (w_op (w_var e8 (w_c (w_ixL (SqL.of (k6 _ _ hf)) atI_0 ⟨n, rfl, ?_⟩))))))))
    refine w_slL (SqL.of (k6 _ _ hl)) fun p H7 n7 k7 g7 => ?_
    obtain ⟨M, eM, sub, len⟩ := cut_refs A none (some n)
    rw [eM] at g7
    exact hq p H7 M (fun b u e => k7 _ _ (k6 _ _ e)) g7 sub len
def spSteps (K : PySem.W.Frag) : Sp := fun vs H Q _ => ∃ (a s i : Addr) (rows : List Str) (W : Nat) (k : List Int) (d : InD), vs = [.ref a, .ref s, .ref i] ∧ SqT K H a (rows.map V.str) ∧ Isl rows W ∧ TI2 K H s k ∧ k ∈ U64 ∧ InAt K H i d ∧ InOk d ∧
  ∀ p H' (L : LK), H p = none → Same H H' → H' p = some (.lst (refs L)) → Cel K H' L → (∀ q ∈ L, q.2 ∈ U64) → L.length ≤ 64 → Q (.ref p) H'
abbrev s__law_steps : Stmt := top 54
theorem sc__law_steps : FnScope ["_law_rows_here", "_law_state", "_law_instruction", "_law_word", "_law_cell", "_law_facing", "_law_found", "_law_ahead_cells", "_law_free", "_law_k", "_law_one_here", "_law_turn", "_law_line_here", "_law_side", "_law_seen_here", "_law_down", "_law_right", "_law_paces"] ["_law_rows_here", "_law_state", "_law_instruction"] (defScope s__law_steps) := ⟨rfl, rfl, rfl, by decide +kernel, rfl, by decide +kernel, by decide +kernel⟩
theorem ok_steps (D : DefAt K mg "_law_steps" s__law_steps ["_law_rows_here", "_law_state", "_law_instruction"]) (T : Txt K mg) (D__law_on : DefOk P w K mg base CX0 1 "_law_on" (spOn K)) (D__law_sign : DefOk P w K mg base CX0 1 "_law_sign" (spSign K))
    (D__law_line : DefOk P w K mg base CX0 2 "_law_line" (spLine K)) (D__law_shore : DefOk P w K mg base CX0 2 "_law_shore" (spShore K)) : DefOk P w K mg base CX0 3 "_law_steps" (spSteps K) := by
  refine D.ok sc__law_steps (fun vs H Q E h => ?_) (fun fa cdv A outer s0 H vs Q E hr hh => ?_)
  · obtain ⟨a, s, i, rows, W, k, d, rfl, _⟩ := h
    rfl
  · obtain ⟨a, s, i, rows, W, k, d, rfl, ha, I, hs, hk, hi, ok, q⟩ := hh
    refine ⟨_, (pss_cons (ps_asg (pe_tup (pa_cons (pe_ix (show IxR _ (rIxT K) from ix_tup) (pv 2) pe_int (fun _ _ => rfl)) (pa_cons (pe_slice (show SlR _ (rSlA K) from sl_tupA) (pv 1) po_none (po_some pe_int)) (pa_cons (pe_ix (show IxR _ (rIxT K) from ix_tup) (pv 1) pe_int (fun _ _ => rfl)) (pa_cons (pe_lst pa_nil) pa_nil))))) (pg_tup rfl (pgs_cons (pg_name (i := 3) sc__law_steps.nd rfl (by first | exact Or.inl rfl | exact Or.inr rfl)) (pgs_cons (pg_name (i := 4) sc__law_steps.nd rfl (by first | exact Or.inl rfl | exact Or.inr rfl)) (pgs_cons (pg_name (i := 5) sc__law_steps.nd rfl (by first | exact Or.inl rfl | exact Or.inr rfl)) (pgs_cons (pg_name (i := 6) sc__law_steps.nd rfl (by first | exact Or.inl rfl | exact Or.inr rfl)) pgs_nil)))))) (pss_cons (ps_set (i := 7) sc__law_steps.nd rfl (by first | exact Or.inl rfl | exact Or.inr rfl) (pe_c D__law_line (hr.mono (by decide)) pass0 (pa_cons (pv 0) (pa_cons (pv 4) (pa_cons (pv 5) pa_nil))))) (pss_cons (ps_setLc (i := 8) (own := [("_law_k", 9)]) rfl sc__law_steps.nd rfl rfl (sw_true rfl rfl rfl (by decide +kernel)) (pi_range1 rfl T.b_range (pa_cons (pe_callB (show CallR _ _ (rLen K) from call_lenK) rfl T.b_len bt_len (pa_cons (pv 7) pa_nil)) pa_nil)) (blkOk_by (own := [("_law_k", 9)]) (N := ["_law_rows_here", "_law_state", "_law_instruction", "_law_word", "_law_cell", "_law_facing", "_law_found", "_law_ahead_cells", "_law_free", "_law_k", "_law_one_here", "_law_turn", "_law_line_here", "_law_side", "_law_seen_here", "_law_down", "_law_right", "_law_paces"]) (sc := defScope s__law_steps) (by decide +kernel)) (fun _ _ _ _ _ => (pg_name (i := 9) sc__law_steps.nd rfl (by first | exact Or.inl rfl | exact Or.inr rfl))) (fun _ _ _ _ _ => pts_one (pt_cmpR (show OpR _ (compareOp .In) (rIn K false) from op_in_seq) pe_str (pe_lc (own := [("_law_one_here", 10)]) rfl sc__law_steps.nd (show PI _ _ _ (iList K _) from pi_list (pe_slice (show SlR _ (rSlL K) from sl_list) (pv 7) po_none (po_some (pe_op op_add (pv 9) pe_int)))) (blkOk_by (own := [("_law_one_here", 10)]) (N := ["_law_rows_here", "_law_state", "_law_instruction", "_law_word", "_law_cell", "_law_facing", "_law_found", "_law_ahead_cells", "_law_free", "_law_k", "_law_one_here", "_law_turn", "_law_line_here", "_law_side", "_law_seen_here", "_law_down", "_law_right", "_law_paces"]) (sc := _) rfl) (fun _ _ _ _ _ => (pg_name (i := 10) sc__law_steps.nd rfl (by first | exact Or.inl rfl | exact Or.inr rfl))) (fun _ _ _ _ _ => pts_nil) (fun _ _ _ _ _ => (pe_c D__law_sign (hr.mono (by decide)) pass0 (pa_cons (pv 0) (pa_cons (pv 10) pa_nil))))) rfl)) (fun _ _ _ _ _ => (pv 9))) (pss_cons (ps_set (i := 7) sc__law_steps.nd rfl (by first | exact Or.inl rfl | exact Or.inr rfl) (pe_ifExp (pt_cmpR (show OpR _ (compareOp .NotEq) (rNeD K) from op_neD hr.units) (pv 8) (pe_lst pa_nil) (nomark _)) (pe_slice (show SlR _ (rSlL K) from sl_list) (pv 7) po_none (po_some (pe_ix (show IxR _ (rIxL K) from ix_list) (pv 8) pe_int (fun _ _ => rfl)))) (pv 7))) (pss_cons (ps_if (pt_cmpR op_eq (pv 3) pe_str (nomark _)) (pss_one (ps_setLc (i := 6) (own := [("_law_turn", 11)]) rfl sc__law_steps.nd rfl rfl (sw_true rfl rfl rfl (by decide +kernel)) (show PI _ _ _ (iTup K _) from pi_tup (pe_ix (show IxR _ (rIxT K) from ix_tup) (pv 2) pe_int (fun _ _ => rfl))) (blkOk_by (own := [("_law_turn", 11)]) (N := ["_law_rows_here", "_law_state", "_law_instruction", "_law_word", "_law_cell", "_law_facing", "_law_found", "_law_ahead_cells", "_law_free", "_law_k", "_law_one_here", "_law_turn", "_law_line_here", "_law_side", "_law_seen_here", "_law_down", "_law_right", "_law_paces"]) (sc := defScope s__law_steps) (by decide +kernel)) (fun _ _ _ _ _ => (pg_name (i := 11) sc__law_steps.nd rfl (by first | exact Or.inl rfl | exact Or.inr rfl))) (fun _ _ _ _ _ => pts_nil) (fun _ _ _ _ _ => (pe_op (show OpR _ (binaryOp .Add) (rCatA K) from op_catA) (pv 4) (pe_tup (pa_cons (pe_op op_modN (pe_callTy call_int1 rfl T.b_int bt_int (pa_cons (pe_op op_add (pv 5) (pv 11)) pa_nil)) pe_int) pa_nil)))))) (pss_one (ps_if (pt_cmpR op_eq (pv 3) pe_str (nomark _)) (pss_cons (ps_set (i := 12) sc__law_steps.nd rfl (by first | exact Or.inl rfl | exact Or.inr rfl) (pe_op op_cat (pe_lst (pa_cons (pv 4) pa_nil)) (pv 7))) (pss_one (ps_setLc (i := 6) (own := [("_law_one_here", 10)]) rfl sc__law_steps.nd rfl rfl (sw_true rfl rfl rfl (by decide +kernel)) (show PI _ _ _ (iList K _) from pi_list (pe_slice (show SlR _ (rSlL K) from sl_list) (pv 12) (po_some (pe_ix (show IxR _ (rIxT K) from ix_tup) (pv 2) pe_int (fun _ _ => rfl))) (po_some (pe_op op_add (pe_ix (show IxR _ (rIxT K) from ix_tup) (pv 2) pe_int (fun _ _ => rfl)) pe_int)))) (blkOk_by (own := [("_law_one_here", 10)]) (N := ["_law_rows_here", "_law_state", "_law_instruction", "_law_word", "_law_cell", "_law_facing", "_law_found", "_law_ahead_cells", "_law_free", "_law_k", "_law_one_here", "_law_turn", "_law_line_here", "_law_side", "_law_seen_here", "_law_down", "_law_right", "_law_paces"]) (sc := defScope s__law_steps) (by decide +kernel)) (fun _ _ _ _ _ => (pg_name (i := 10) sc__law_steps.nd rfl (by first | exact Or.inl rfl | exact Or.inr rfl))) (fun _ _ _ _ _ => pts_nil) (fun _ _ _ _ _ => (pe_op (show OpR _ (binaryOp .Add) (rCatA K) from op_catA) (pv 10) (pe_tup (pa_cons (pv 5) pa_nil))))))) (pss_one (ps_if (pt_cmpR op_eq (pv 3) pe_str (nomark _)) (pss_one (ps_set (i := 6) sc__law_steps.nd rfl (by first | exact Or.inl rfl | exact Or.inr rfl) (pe_slice (show SlR _ (rSlL K) from sl_list) (pe_lc (own := [("_law_one_here", 10)]) rfl sc__law_steps.nd (show PI _ _ _ (iList K _) from pi_list (pv 7)) (blkOk_by (own := [("_law_one_here", 10)]) (N := ["_law_rows_here", "_law_state", "_law_instruction", "_law_word", "_law_cell", "_law_facing", "_law_found", "_law_ahead_cells", "_law_free", "_law_k", "_law_one_here", "_law_turn", "_law_line_here", "_law_side", "_law_seen_here", "_law_down", "_law_right", "_law_paces"]) (sc := defScope s__law_steps) (by decide +kernel)) (fun _ _ _ _ _ => (pg_name (i := 10) sc__law_steps.nd rfl (by first | exact Or.inl rfl | exact Or.inr rfl))) (fun _ _ _ _ _ => pts_one (pt_cmpR op_in_sign (pe_c D__law_sign (hr.mono (by decide)) pass0 (pa_cons (pv 0) (pa_cons (pv 10) pa_nil))) (pe_ix (show IxR _ (rIxT K) from ix_tup) (pv 2) pe_int (fun _ _ => rfl)) rfl)) (fun _ _ _ _ _ => (pe_op (show OpR _ (binaryOp .Add) (rCatA K) from op_catA) (pv 10) (pe_tup (pa_cons (pv 5) pa_nil))))) po_none (po_some pe_int)))) (pss_one (ps_if (pt_cmpR op_eq (pv 3) pe_str (nomark _)) (pss_one (ps_for PassesOwn.never rfl (pi_range1 rfl T.b_range (pa_cons pe_int pa_nil)) (pg_name (i := 13) sc__law_steps.nd rfl (by first | exact Or.inl rfl | exact Or.inr rfl)) (pss_cons (ps_setLc (i := 14) (own := [("_law_one_here", 10)]) rfl sc__law_steps.nd rfl rfl (sw_true rfl rfl rfl (by decide +kernel)) (show PI _ _ _ (iList K _) from pi_list (pe_c D__law_line (hr.mono (by decide)) pass0 (pa_cons (pv 0) (pa_cons (pv 4) (pa_cons (pv 13) pa_nil))))) (blkOk_by (own := [("_law_one_here", 10)]) (N := ["_law_rows_here", "_law_state", "_law_instruction", "_law_word", "_law_cell", "_law_facing", "_law_found", "_law_ahead_cells", "_law_free", "_law_k", "_law_one_here", "_law_turn", "_law_line_here", "_law_side", "_law_seen_here", "_law_down", "_law_right", "_law_paces"]) (sc := defScope s__law_steps) (by decide +kernel)) (fun _ _ _ _ _ => (pg_name (i := 10) sc__law_steps.nd rfl (by first | exact Or.inl rfl | exact Or.inr rfl))) (fun _ _ _ _ _ => pts_one (pt_cmpR op_in_sign (pe_c D__law_sign (hr.mono (by decide)) pass0 (pa_cons (pv 0) (pa_cons (pv 10) pa_nil))) (pe_ix (show IxR _ (rIxT K) from ix_tup) (pv 2) pe_int (fun _ _ => rfl)) rfl)) (fun _ _ _ _ _ => (pv 10))) (pss_one (ps_set (i := 6) sc__law_steps.nd rfl (by first | exact Or.inl rfl | exact Or.inr rfl) (pe_op op_cat (pv 6) (pe_op op_rep (pe_lst (pa_cons (pe_op (show OpR _ (binaryOp .Add) (rCatA K) from op_catA) (pv 4) (pe_tup (pa_cons (pv 13) pa_nil))) pa_nil)) (pe_callTy call_int1 rfl T.b_int bt_int (pa_cons (pe_cmpR (show OpR _ (compareOp .NotEq) (rNeD K) from op_neD hr.units) (pv 14) (pe_lst pa_nil) (nomark _)) pa_nil))))))))) (pss_one (ps_if (pt_cmpR op_eq (pv 3) pe_str (nomark _)) (pss_one (ps_set (i := 6) sc__law_steps.nd rfl (by first | exact Or.inl rfl | exact Or.inr rfl) (pe_op op_rep (pe_lst (pa_cons (pv 1) pa_nil)) (pe_callTy call_int1 rfl T.b_int bt_int (pa_cons (pe_cmpR op_in_sign (pe_c D__law_sign (hr.mono (by decide)) pass0 (pa_cons (pv 0) (pa_cons (pe_c D__law_on (hr.mono (by decide)) pass0 (pa_cons (pv 4) (pa_cons (pe_op op_add (pv 5) (pe_ix (show IxR _ (rIxT K) from ix_tup) (pv 2) pe_int (fun _ _ => rfl))) pa_nil))) pa_nil))) (pe_ix (show IxR _ (rIxT K) from ix_tup) (pv 2) pe_int (fun _ _ => rfl)) rfl) pa_nil))))) (pss_one (ps_if (pt_cmpR op_eq (pv 3) pe_str (nomark _)) (pss_one (ps_for PassesOwn.never rfl (pi_range2 rfl T.b_range (pa_cons (pe_op op_sub pe_int (pe_ix (show IxR _ (rIxT K) from ix_tup) (pv 2) pe_int (fun _ _ => rfl))) (pa_cons (pe_op op_add (pe_ix (show IxR _ (rIxT K) from ix_tup) (pv 2) pe_int (fun _ _ => rfl)) pe_int) pa_nil))) (pg_name (i := 15) sc__law_steps.nd rfl (by first | exact Or.inl rfl | exact Or.inr rfl)) (pss_one (ps_for PassesOwn.never rfl (pi_range2 rfl T.b_range (pa_cons (pe_op op_sub (pe_callB call_abs rfl T.b_abs bt_abs (pa_cons (pv 15) pa_nil)) (pe_ix (show IxR _ (rIxT K) from ix_tup) (pv 2) pe_int (fun _ _ => rfl))) (pa_cons (pe_op op_add (pe_op op_sub (pe_ix (show IxR _ (rIxT K) from ix_tup) (pv 2) pe_int (fun _ _ => rfl)) (pe_callB call_abs rfl T.b_abs bt_abs (pa_cons (pv 15) pa_nil))) pe_int) pa_nil))) (pg_name (i := 16) sc__law_steps.nd rfl (by first | exact Or.inl rfl | exact Or.inr rfl)) (pss_one (ps_if (pt_cmpR op_in_sign (pe_c D__law_sign (hr.mono (by decide)) pass0 (pa_cons (pv 0) (pa_cons (pe_tup (pa_cons (pe_op op_add (pe_ix (show IxR _ (rIxT K) from ix_tup) (pv 4) pe_int (fun _ _ => rfl)) (pv 15)) (pa_cons (pe_op op_add (pe_ix (show IxR _ (rIxT K) from ix_tup) (pv 4) pe_int (fun _ _ => rfl)) (pv 16)) pa_nil))) pa_nil))) (pe_ix (show IxR _ (rIxT K) from ix_tup) (pv 2) pe_int (fun _ _ => rfl)) rfl) (pss_one (ps_set (i := 6) sc__law_steps.nd rfl (by first | exact Or.inl rfl | exact Or.inr rfl) (pe_lst (pa_cons (pv 1) pa_nil)))) pss_nil)))))) (pss_one (ps_for PassesOwn.never rfl (pi_range1 rfl T.b_range (pa_cons (pe_op op_add (pe_ix (show IxR _ (rIxT K) from ix_tup) (pv 2) pe_int (fun _ _ => rfl)) pe_int) pa_nil)) (pg_name (i := 17) sc__law_steps.nd rfl (by first | exact Or.inl rfl | exact Or.inr rfl)) (pss_cons (ps_set (i := 6) sc__law_steps.nd rfl (by first | exact Or.inl rfl | exact Or.inr rfl) (pe_op op_cat (pv 6) (pe_op op_rep (pe_lst (pa_cons (pv 1) pa_nil)) (pe_callTy call_int1 rfl T.b_int bt_int (pa_cons (pe_and (pe_cmpR op_ge (pv 17) (pe_ix (show IxR _ (rIxT K) from ix_tup) (pv 2) pe_int (fun _ _ => rfl)) (nomark _)) (pe_one (pe_cmpR op_notN (pv 1) pe_non (nomark _)))) pa_nil))))) (pss_one (ps_set (i := 1) sc__law_steps.nd rfl (by first | exact Or.inl rfl | exact Or.inr rfl) (pe_ifExp (pt_cmpR op_notN (pv 1) pe_non (nomark _)) (pe_c D__law_shore (hr.mono (by decide)) pass0 (pa_cons (pv 0) (pa_cons (pv 1) (pa_cons (pe_ix (show IxR _ (rIxT K) from ix_tup) (pv 2) pe_int (fun _ _ => rfl)) pa_nil)))) pe_non))))))))))))))))) (pss_one (ps_ret (pe_callB (S6.cr_sorted6 rfl hr.units) rfl T.b_sorted bt_sorted (pa_cons (pe_callTy (S6.cr_set6 (U := U64) rfl hr.units) rfl T.b_set bt_set (pa_cons (pv 6) pa_nil)) pa_nil))))))))), ?_⟩
    have I4 := I.r4
    have Iw := I.w4
    obtain ⟨r, c, f, rfl, hr4, hc4, hf4⟩ := of_U64 hk
    obtain ⟨rest, hi0⟩ := hi.head
    -- the end, whatever was found
    have fin : ∀ (σ : St) (H' : Hp) (p : Addr) (L : LK), σ[6]? = some (some (.ref p)) → Same H H' → H' p = some (.lst (refs L)) → Cel K H' L → LkU L →
        tRet (tCB (S6.rSorted6 K P w) (tCons (tCB (S6.rSet6 K P w U64) (tCons (tVar 6) tNil)) tNil)) { nx := fun _ H' => Q .non H', rt := Q } σ H' := by
      intro σ H' p L e6 sm gp cl lu
      refine w_ret (w_cb (w_cons (w_cb (w_cons (w_var e6 (w_nil ?_))))))
      refine ⟨p, L, rfl, SqL.of gp, fun q hq => ⟨cl q hq, lu q hq⟩, U64_len, fun a2 M n2 sub lm => ?_⟩
      generalize hE : upd H' a2 _ = H2; obtain ⟨k2, g2⟩ := updN n2 hE
      refine w_nil ⟨a2, M, rfl, g2, fun q hq => ⟨Same.seqT k2 (cl q (sub q hq)), fun e => ?_⟩, fun M' p3 sub3 len3 n3 => ?_⟩
      · have u := lu q (sub q hq)
        rw [e] at u
        exact absurd u (by decide)
      · generalize hE3 : upd H2 p3 _ = H3; obtain ⟨k3, g3⟩ := updN n3 hE3
        have s3 : Same H H3 := fun b u e => k3 _ _ (k2 _ _ (sm _ _ e))
        exact q p3 H3 M' (none_back (fun b u e => k2 _ _ (sm _ _ e)) n3) s3 g3 (fun q hq => Same.seqT k3 (Same.seqT k2 (cl q (sub q (sub3 q hq))))) (fun q hq => lu q (sub q (sub3 q hq))) (by omega)
    walk_at "gx"
    refine w_slA hs fun cp H1 k1 hcp => ?_
    have hc1 : TI2 K H1 cp [r, c] := hcp
    walk_at "gx"
    refine ⟨small (by simp), fun fp n2 => ?_⟩
    generalize hE2 : upd H1 fp _ = H2; obtain ⟨k2, g2⟩ := updN n2 hE2
    walk_at "gx"
    refine ⟨small (by simp), fun tp n3 => ?_⟩
    generalize hE3 : upd H2 tp _ = H3; obtain ⟨k3, g3⟩ := updN n3 hE3
    refine w_gtup (SqT.of g3) rfl ?_
    walk_at "gx"
    have s3 : Same H H3 := fun b u e => k3 _ _ (k2 _ _ (k1 _ _ e))
    have a3 : SqT K H3 a (rows.map V.str) := Same.seqT s3 ha
    have hc3 : TI2 K H3 cp [r, c] := Same.seqT k3 (Same.seqT k2 hc1)
    refine ⟨a, cp, rows, W, r, c, f, [], rfl, a3, I, hc3, fun lp H4 A n4 k4 g4 cA iA lA => ?_⟩
    walk_at "gx"
    rw [refs_len]
    have a4 := Same.seqT k4 a3
    refine lc_rng (n := A.length) rfl (by omega) (fun j D H' => H4 D = none ∧ Same H4 H' ∧ ∃ ns : List Int, H' D = some (.lst (ns.map V.int)) ∧ ns.length ≤ j)
      (fun D hD => ⟨hD, Same.updD (Same.refl _) hD, [], upd_same, Nat.le_refl _⟩) ?_ ?_
    · rintro j D H5 hj ⟨hD, k5, ns, gD, ln⟩
      walk_at "gx"
      refine ⟨rfl, ?_⟩
      walk_at "gx"
      refine w_slL (SqL.of (k5 _ _ g4)) fun sp H6 n6 k6 g6 => ?_
      obtain ⟨M, eM, subM, lenM⟩ := cut_refs A none (some ((j : Int) + 1))
      rw [eM] at g6
      walk_at "gx"
      refine lc_list (xs := refs M) (SqL.of g6) (fun i D2 H' => H6 D2 = none ∧ Same H6 H' ∧ ∃ zs : List Str, H' D2 = some (.lst (zs.map V.str)) ∧ zs.length ≤ i)
        (fun D2 hD2 => ⟨hD2, Same.updD (Same.refl _) hD2, [], upd_same, Nat.le_refl _⟩) (fun i D2 H' _ p => Same.seq p.2.1 (SqL.of g6)) ?_ ?_
      · rintro i D2 H7 x hx ⟨hD2, k7, zs, gz, lz⟩
        obtain ⟨q1, hq1, rfl⟩ := refs_get hx
        have m1 := List.mem_of_getElem? hq1
        have hlt := (List.getElem?_eq_some_iff.mp hq1).1
        obtain ⟨r1, c1, e1, _⟩ := iA q1 (subM q1 m1)
        have t1 := cA q1 (subM q1 m1)
        rw [e1] at t1
        walk_at "gx"
        refine ⟨rfl, ?_⟩
        walk_at "gx"
        have s7 : Same H4 H7 := fun b u e => k7 _ _ (k6 _ _ (k5 _ _ e))
        refine ⟨a, q1.1, rows, W, r1, c1, [], rfl, Same.seqT s7 a4, I, Same.seqT s7 t1, ?_⟩
        refine ⟨_, gz, smallL (by rw [List.length_map]; omega), hD2, Same.updD k7 hD2, zs ++ [sg (signAt rows r1 c1)], by rw [upd_same, List.map_append]; rfl, by rw [List.length_append]; simp; omega⟩
      · rintro D2 H7 ⟨hD2, k7, zs, gz, lz⟩
        refine ⟨D2, _, rfl, .inl (SqL.of gz), rfl, ?_, ?_⟩
        · rw [List.all_eq_true]
          intro y hy
          obtain ⟨z, _, rfl⟩ := List.mem_map.mp hy
          rfl
        · walk_at "gx"
          have s7 : Same H5 H7 := fun b u e => k7 _ _ (k6 _ _ e)
          refine iteb (fun _ => ?_) (fun _ => ?_)
          · walk_at "gx"
            exact ⟨_, s7 _ _ gD, smallL (by rw [List.length_map]; omega), hD, Same.updD (fun b u e => s7 _ _ (k5 _ _ e)) hD, ns ++ [(j : Int)], by rw [upd_same, List.map_append]; rfl, by rw [List.length_append]; simp; omega⟩
          · exact ⟨hD, fun b u e => s7 _ _ (k5 _ _ e), ns, s7 _ _ gD, by omega⟩
    · rintro D H5 ⟨hD, k5, ns, gD, ln⟩
      refine w_gname (w_seq (w_asg (w_freeIf rfl rfl gD (k5 _ _ g4) fun lp' H7 B k7 g7 subB lenB => ?_)))
      have s7 : Same H H7 := fun b u e => k7 _ _ (k5 _ _ (k4 _ _ (s3 _ _ e)))
      have hc7 : TI2 K H7 cp [r, c] := Same.seqT k7 (Same.seqT k5 (Same.seqT k4 hc3))
      have a7 := Same.seqT s7 ha
      have i7 := InAt.same s7 hi
      have f7 : H7 fp = some (.lst []) := k7 _ _ (k5 _ _ (k4 _ _ (k3 _ _ g2)))
      have cB : Cel K H7 B := fun q hq => Same.seqT k7 (Same.seqT k5 (cA q (subB q hq)))
      have iB : CelIn rows W B := fun q hq => iA q (subB q hq)
      have hcU : [r, c, f] ∈ U64 := hk
      have hs7 : TI2 K H7 s [r, c, f] := Same.seqT s7 hs
      clear k7 k5 k4 g4 gD hcp hc1 hc3 a3 a4 s3 g3 g2 k3 k2 k1
      refine w_gname ?_
      show tSeq _ _ _ [some (.ref a), some (.ref s), some (.ref i), some (.str (InW d)), some (.ref cp), some (.int f), some (.ref fp), some (.ref lp'), some (.ref D), none, none, none, none, none, none, none, none, none] H7
      cases d with
      | turn ts =>
        obtain ⟨t, i1, i2⟩ := i7
        obtain ⟨l1, l4, lt⟩ := ok
        walk_at "gx"
        refine wdT rfl ?_
        walk_at "gx"
        refine lc_tup (xs := ts.map V.int) i2 (fun j D H' => H7 D = none ∧ Same H7 H' ∧ ∃ M : LK, H' D = some (.lst (refs M)) ∧ Cel K H' M ∧ LkU M ∧ M.length ≤ j)
          (fun D hD => ⟨hD, Same.updD (Same.refl _) hD, [], upd_same, Cel.nil, LkU.nil, Nat.le_refl _⟩) (fun j D H' _ p => Same.seqT p.2.1 i2) ?_ ?_
        · rintro j D H8 x hx ⟨hD, k8, M, gM, cM, uM, lM⟩
          have jl := (List.getElem?_eq_some_iff.mp hx).1
          rw [List.length_map] at jl
          obtain ⟨z, rfl, hz⟩ := take_intsV hx
          walk_at "gx"
          refine ⟨rfl, ?_⟩
          walk_at "gx"
          refine w_I (by decide) ?_
          walk_at "gx"
          refine ⟨small (by simp), fun p9 n9 => ?_⟩
          generalize hE9 : upd H8 p9 _ = H9; obtain ⟨k9, g9⟩ := updN n9 hE9
          refine w_catA (Same.seqT k9 (Same.seqT k8 hc7)) (SqT.of g9) (small (by simp)) fun pa Ha ka ga => ?_
          have fm : (f + z).fmod 4 = (f + z) % 4 := Int.fmod_eq_emod_of_nonneg _ (by decide)
          rw [fm] at ga
          have gMa := ka _ _ (k9 _ _ gM)
          have ga' : TI2 K Ha pa [r, c, (f + z) % 4] := ga
          exact ⟨_, gMa, smallL (by rw [refs_len]; omega), hD, Same.updD (fun b u e => ka _ _ (k9 _ _ (k8 _ _ e))) hD, M ++ [(pa, [r, c, (f + z) % 4])], by rw [upd_same, refs_snoc], Cel.updL gMa ((Cel.same ka (Cel.same k9 cM)).snoc ga'), uM.snoc (mem_U64 hr4 hc4 (by omega)), by rw [List.length_append]; simp; omega⟩
        · rintro D H8 ⟨hD, k8, M, gM, cM, uM, lM⟩
          walk_at "g1"
          exact fin _ H8 D M rfl (fun b u e => k8 _ _ (s7 _ _ e)) gM cM uM
      | walk l m =>
        have i7 : SqT K H7 i [.str "walk", .int l, .int m] := i7
        walk_at "gx"
        refine wdF (show ("walk" : Str) ≠ "turn" by decide) ?_
        walk_at "gx"
        refine wdT rfl ?_
        walk_at "gx"
        refine ⟨small (by simp), fun p8 n8 => ?_⟩
        generalize hE8 : upd H7 p8 _ = H8; obtain ⟨k8, g8⟩ := updN n8 hE8
        walk_at "gx"
        refine w_cat g8 (k8 _ _ g7) (small (by rw [refs_len]; simp; omega)) fun p9 H9 n9 k9 g9 => ?_
        have g9' : H9 p9 = some (.lst (refs ((cp, [r, c]) :: B))) := g9
        walk_at "gx"
        refine w_slL (SqL.of g9') fun pa Ha na ka ga => ?_
        obtain ⟨M, eM, subM, lenM⟩ := cut_refs ((cp, [r, c]) :: B) (some l) (some (m + 1))
        rw [eM] at ga
        have sa : Same H7 Ha := fun b u e => ka _ _ (k9 _ _ (k8 _ _ e))
        have all : ∀ q ∈ M, TI2 K Ha q.1 q.2 ∧ ∃ r1 c1 : Int, q.2 = [r1, c1] ∧ [r1, c1, f] ∈ U64 := fun q hq => by
          rcases List.mem_cons.mp (subM q hq) with e | e
          · subst e
            exact ⟨Same.seqT sa hc7, r, c, rfl, hcU⟩
          · obtain ⟨r1, c1, e1, b1, b2, b3, b4⟩ := iB q e
            exact ⟨Same.seqT sa (cB q e), r1, c1, e1, mem_U64 (by omega) (by omega) hf4⟩
        rw [List.length_cons] at lenM
        walk_at "gx"
        refine lc_list (xs := refs M) (SqL.of ga) (fun j D H' => Ha D = none ∧ Same Ha H' ∧ ∃ N : LK, H' D = some (.lst (refs N)) ∧ Cel K H' N ∧ LkU N ∧ N.length ≤ j)
          (fun D hD => ⟨hD, Same.updD (Same.refl _) hD, [], upd_same, Cel.nil, LkU.nil, Nat.le_refl _⟩) (fun j D H' _ p => Same.seq p.2.1 (SqL.of ga)) ?_ ?_
        · rintro j D Hb x hx ⟨hD, kb, N, gN, cN, uN, lN⟩
          have jl := (List.getElem?_eq_some_iff.mp hx).1
          rw [refs_len] at jl
          obtain ⟨q1, hq1, rfl⟩ := refs_get hx
          obtain ⟨t1, r1, c1, e1, u1⟩ := all q1 (List.mem_of_getElem? hq1)
          rw [e1] at t1
          walk_at "gx"
          refine ⟨rfl, ?_⟩
          walk_at "gx"
          refine ⟨small (by simp), fun pc nc => ?_⟩
          generalize hEc : upd Hb pc _ = Hc; obtain ⟨kc, gc⟩ := updN nc hEc
          refine w_catA (Same.seqT kc (Same.seqT kb t1)) (SqT.of gc) (small (by simp)) fun pd Hd kd gd => ?_
          have gd' : TI2 K Hd pd [r1, c1, f] := gd
          have gNd := kd _ _ (kc _ _ gN)
          exact ⟨_, gNd, smallL (by rw [refs_len]; omega), hD, Same.updD (fun b u e => kd _ _ (kc _ _ (kb _ _ e))) hD, N ++ [(pd, [r1, c1, f])], by rw [upd_same, refs_snoc], Cel.updL gNd ((Cel.same kd (Cel.same kc cN)).snoc gd'), uN.snoc u1, by rw [List.length_append]; simp; omega⟩
        · rintro D Hb ⟨hD, kb, N, gN, cN, uN, lN⟩
          walk_at "g1"
          exact fin _ Hb D N rfl (fun b u e => kb _ _ (sa _ _ (s7 _ _ e))) gN cN uN
      | til t z =>
        have i7 : SqT K H7 i [.str (if t then "until" else "toward"), .str z] := i7
        obtain ⟨z1, z10, zs⟩ := ok
        cases t with
        | true =>
          walk_at "gx"
          refine wdF (show ("until" : Str) ≠ "turn" by decide) ?_
          walk_at "gx"
          refine wdF (show ("until" : Str) ≠ "walk" by decide) ?_
          walk_at "gx"
          refine wdT rfl ?_
          walk_at "gx"
          refine lc_list (xs := refs B) (SqL.of g7) (fun j D H' => H7 D = none ∧ Same H7 H' ∧ ∃ N : LK, H' D = some (.lst (refs N)) ∧ Cel K H' N ∧ LkU N ∧ N.length ≤ j)
            (fun D hD => ⟨hD, Same.updD (Same.refl _) hD, [], upd_same, Cel.nil, LkU.nil, Nat.le_refl _⟩) (fun j D H' _ p => Same.seq p.2.1 (SqL.of g7)) ?_ ?_
          · rintro j D Hb x hx ⟨hD, kb, N, gN, cN, uN, lN⟩
            have jl := (List.getElem?_eq_some_iff.mp hx).1
            rw [refs_len] at jl
            obtain ⟨q1, hq1, rfl⟩ := refs_get hx
            have m1 := List.mem_of_getElem? hq1
            obtain ⟨r1, c1, e1, b1, b2, b3, b4⟩ := iB q1 m1
            have t1 := cB q1 m1
            rw [e1] at t1
            walk_at "gx"
            refine ⟨rfl, ?_⟩
            walk_at "gx"
            refine ⟨a, q1.1, rows, W, r1, c1, [], rfl, Same.seqT kb a7, I, Same.seqT kb t1, ?_⟩
            walk_at "gx"
            refine ⟨_, z, rfl, rfl, _, rfl, ?_⟩
            refine iteb (fun _ => ?_) (fun _ => ?_)
            · walk_at "gx"
              refine ⟨small (by simp), fun pc nc => ?_⟩
              generalize hEc : upd Hb pc _ = Hc; obtain ⟨kc, gc⟩ := updN nc hEc
              refine w_catA (Same.seqT kc (Same.seqT kb t1)) (SqT.of gc) (small (by simp)) fun pd Hd kd gd => ?_
              have gd' : TI2 K Hd pd [r1, c1, f] := gd
              have gNd := kd _ _ (kc _ _ gN)
              exact ⟨_, gNd, smallL (by rw [refs_len]; omega), hD, Same.updD (fun b u e => kd _ _ (kc _ _ (kb _ _ e))) hD, N ++ [(pd, [r1, c1, f])], by rw [upd_same, refs_snoc], Cel.updL gNd ((Cel.same kd (Cel.same kc cN)).snoc gd'), uN.snoc (mem_U64 (by omega) (by omega) hf4), by rw [List.length_append]; simp; omega⟩
            · exact ⟨hD, kb, N, gN, cN, uN, by omega⟩
          · rintro D Hb ⟨hD, kb, N, gN, cN, uN, lN⟩
            walk_at "gx"
            refine w_slL (SqL.of gN) fun pe He ne ke ge => ?_
            obtain ⟨M, eM, subM, lenM⟩ := cut_refs N none (some 1)
            rw [eM] at ge
            walk_at "g1"
            exact fin _ He pe M rfl (fun b u e => ke _ _ (kb _ _ (s7 _ _ e))) ge (fun q hq => Same.seqT ke (cN q (subM q hq))) (fun q hq => uN q (subM q hq))
        | false =>
          walk_at "gx"
          refine wdF (show ("toward" : Str) ≠ "turn" by decide) ?_
          walk_at "gx"
          refine wdF (show ("toward" : Str) ≠ "walk" by decide) ?_
          walk_at "gx"
          refine wdF (show ("toward" : Str) ≠ "until" by decide) ?_
          walk_at "gx"
          refine wdT rfl ?_
          walk_at "gx"
          refine lp_rng1 (n := 4) rfl (by decide) (fun j σ H' => ∃ p v13 v14 N, σ = [some (.ref a), some (.ref s), some (.ref i), some (.str "toward"), some (.ref cp), some (.int f), some (.ref p), some (.ref lp'), some (.ref D), none, none, none, none, v13, v14, none, none, none] ∧ Same H7 H' ∧ H' p = some (.lst (refs N)) ∧ Cel K H' N ∧ LkU N ∧ N.length ≤ j)
            ⟨fp, none, none, [], rfl, Same.refl _, f7, Cel.nil, LkU.nil, Nat.le_refl _⟩ ?_ ?_
          · rintro j σ Hb hj ⟨p, v13, v14, N, rfl, kb, gN, cN, uN, lN⟩
            walk_at "gx"
            refine ⟨a, cp, rows, W, r, c, (j : Int), [], rfl, Same.seqT kb a7, I, Same.seqT kb hc7, fun lq Hc A2 nq kc gq cA2 iA2 lA2 => ?_⟩
            walk_at "gx"
            refine lc_list (xs := refs A2) (SqL.of gq) (fun m D2 H' => Hc D2 = none ∧ Same Hc H' ∧ ∃ M : LK, H' D2 = some (.lst (refs M)) ∧ Cel K H' M ∧ M.length ≤ m)
              (fun D2 hD2 => ⟨hD2, Same.updD (Same.refl _) hD2, [], upd_same, Cel.nil, Nat.le_refl _⟩) (fun m D2 H' _ p => Same.seq p.2.1 (SqL.of gq)) ?_ ?_
            · rintro m D2 Hd x hx ⟨hD2, kd, M, gM, cM, lM⟩
              have jl := (List.getElem?_eq_some_iff.mp hx).1
              rw [refs_len] at jl
              obtain ⟨q1, hq1, rfl⟩ := refs_get hx
              have m1 := List.mem_of_getElem? hq1
              obtain ⟨r1, c1, e1, b1, b2, b3, b4⟩ := iA2 q1 m1
              have t1 := cA2 q1 m1
              rw [e1] at t1
              walk_at "gx"
              refine ⟨rfl, ?_⟩
              walk_at "gx"
              have kbd : Same H7 Hd := fun b u e => kd _ _ (kc _ _ (kb _ _ e))
              refine ⟨a, q1.1, rows, W, r1, c1, [], rfl, Same.seqT kbd a7, I, Same.seqT kd t1, ?_⟩
              walk_at "gx"
              refine ⟨_, z, rfl, rfl, _, rfl, ?_⟩
              refine iteb (fun _ => ?_) (fun _ => ?_)
              · walk_at "gx"
                exact ⟨_, gM, smallL (by rw [refs_len]; omega), hD2, Same.updD kd hD2, M ++ [(q1.1, [r1, c1])], by rw [upd_same, refs_snoc], Cel.updL gM (cM.snoc (Same.seqT kd t1)), by rw [List.length_append]; simp; omega⟩
              · exact ⟨hD2, kd, M, gM, cM, by omega⟩
            · rintro D2 Hd ⟨hD2, kd, M, gM, cM, lM⟩
              have kbd : Same Hb Hd := fun b u e => kd _ _ (kc _ _ e)
              walk_at "gx"
              refine ⟨small (by simp), fun p1 n1 => ?_⟩
              generalize hE1 : upd Hd p1 _ = Hf; obtain ⟨kf, gf⟩ := updN n1 hE1
              refine w_catA (Same.seqT kf (Same.seqT kbd (Same.seqT kb hc7))) (SqT.of gf) (small (by simp)) fun p2 Hg kg gg => ?_
              have gg' : TI2 K Hg p2 [r, c, (j : Int)] := gg
              walk_at "gx"
              refine ⟨small (by simp), fun p3 n3 => ?_⟩
              generalize hE3 : upd Hg p3 _ = Hh; obtain ⟨kh, gh⟩ := updN n3 hE3
              walk_at "gx"
              refine ⟨small (by simp), fun p4 n4 => ?_⟩
              generalize hE4 : upd Hh p4 _ = Hi; obtain ⟨ki, gi⟩ := updN n4 hE4
              have kdi : Same Hd Hi := fun b u e => ki _ _ (kh _ _ (kg _ _ (kf _ _ e)))
              refine w_neNil (dp_cells (SqL.of (kdi _ _ gM)) (Cel.same kdi cM)) gi (shp_cells M) (by decide) ?_
              generalize (List.map (fun q : Addr × List Int => PyData.tuple (List.map PyData.int q.2)) M).isEmpty = bb
              walk_at "gx"
              refine .inr ⟨_, rfl, ?_⟩
              walk_at "gx"
              refine ⟨p3, _, _, rfl, rfl, ki _ _ gh, by split <;> decide, by split <;> decide, small (by split <;> simp), fun p5 n5 => ?_⟩
              generalize hE5 : upd Hi p5 _ = Hj; obtain ⟨kj, gj⟩ := updN n5 hE5
              have uj : [r, c, (j : Int)] ∈ U64 := mem_U64 hr4 hc4 (by omega)
              obtain ⟨M2, eM2, cM2, uM2, lM2⟩ : ∃ M2 : LK, Hj p5 = some (.lst (refs M2)) ∧ Cel K Hj M2 ∧ LkU M2 ∧ M2.length ≤ 1 := by
                cases bb with
                | true => exact ⟨[], gj, Cel.nil, LkU.nil, Nat.zero_le _⟩
                | false => exact ⟨[(p2, [r, c, (j : Int)])], gj, fun q hq => by rw [List.mem_singleton.mp hq]; exact Same.seqT kj (Same.seqT ki (Same.seqT kh gg')), fun q hq => by rw [List.mem_singleton.mp hq]; exact uj, Nat.le_refl _⟩
              have kbj : Same Hb Hj := fun b u e => kj _ _ (kdi _ _ (kbd _ _ e))
              refine w_cat (kbj _ _ gN) eM2 (small (by rw [refs_len, refs_len]; omega)) fun p6 Hk n6 kk gk => ?_
              walk_at "gx"
              exact ⟨p6, _, _, N ++ M2, rfl, fun b u e => kk _ _ (kbj _ _ (kb _ _ e)), by rw [← refs_app]; exact gk, (Cel.same kk (Cel.same kbj cN)).app (Cel.same kk cM2), fun q hq => (List.mem_append.mp hq).elim (uN q) (uM2 q), by rw [List.length_append]; omega⟩
          · rintro σ Hb ⟨p, v13, v14, N, rfl, kb, gN, cN, uN, lN⟩
            exact fin _ Hb p N rfl (fun b u e => kb _ _ (s7 _ _ e)) gN cN uN
      | beside n z =>
        have i7 : SqT K H7 i [.str "beside", .int n, .str z] := i7
        walk_at "gx"
        refine wdF (show ("beside" : Str) ≠ "turn" by decide) ?_
        walk_at "gx"
        refine wdF (show ("beside" : Str) ≠ "walk" by decide) ?_
        walk_at "gx"
        refine wdF (show ("beside" : Str) ≠ "until" by decide) ?_
        walk_at "gx"
        refine wdF (show ("beside" : Str) ≠ "toward" by decide) ?_
        walk_at "gx"
        refine wdT rfl ?_
        walk_at "gx"
        refine ⟨small (by simp), fun p1 n1 => ?_⟩
        generalize hE1 : upd H7 p1 _ = Hb; obtain ⟨kb, gb⟩ := updN n1 hE1
        walk_at "gx"
        refine ⟨cp, r, c, f + n, [], rfl, Same.seqT kb hc7, fun p2 Hc n2 kc gc => ?_⟩
        walk_at "gx"
        refine ⟨a, p2, rows, W, r + dxOf (f + n), c + dyOf (f + n), [], rfl, Same.seqT kc (Same.seqT kb a7), I, SqT.of gc, ?_⟩
        walk_at "gx"
        refine ⟨_, z, rfl, rfl, ?_⟩
        walk_at "gx"
        refine .inr ⟨_, rfl, ?_⟩
        walk_at "gx"
        generalize decide (signAt rows (r + dxOf (f + n)) (c + dyOf (f + n)) ∈ z.cps.toList) = bb
        refine ⟨p1, _, _, rfl, rfl, kc _ _ gb, by split <;> decide, by split <;> decide, small (by split <;> simp), fun p5 n5 => ?_⟩
        generalize hE5 : upd Hc p5 _ = Hj; obtain ⟨kj, gj⟩ := updN n5 hE5
        have s7j : Same H7 Hj := fun b u e => kj _ _ (kc _ _ (kb _ _ e))
        obtain ⟨M2, eM2, cM2, uM2⟩ : ∃ M2 : LK, Hj p5 = some (.lst (refs M2)) ∧ Cel K Hj M2 ∧ LkU M2 := by
          cases bb with
          | false => exact ⟨[], gj, Cel.nil, LkU.nil⟩
          | true => exact ⟨[(s, [r, c, f])], gj, fun q hq => by rw [List.mem_singleton.mp hq]; exact Same.seqT s7j hs7, fun q hq => by rw [List.mem_singleton.mp hq]; exact hcU⟩
        walk_at "g1"
        exact fin _ Hj p5 M2 rfl (fun b u e => s7j _ _ (s7 _ _ e)) eM2 cM2 uM2
      | near z n =>
        have i7 : SqT K H7 i [.str "near", .str z, .int n] := i7
        obtain ⟨n0, n10, _⟩ := ok
        walk_at "gx"
        refine wdF (show ("near" : Str) ≠ "turn" by decide) ?_
        walk_at "gx"
        refine wdF (show ("near" : Str) ≠ "walk" by decide) ?_
        walk_at "gx"
        refine wdF (show ("near" : Str) ≠ "until" by decide) ?_
        walk_at "gx"
        refine wdF (show ("near" : Str) ≠ "toward" by decide) ?_
        walk_at "gx"
        refine wdF (show ("near" : Str) ≠ "beside" by decide) ?_
        walk_at "gx"
        refine wdT rfl ?_
        walk_at "gx"
        refine lp_rng2 ⟨by omega, by omega, by omega, by omega⟩ (fun j σ H' => ∃ p v15 v16 N, σ = [some (.ref a), some (.ref s), some (.ref i), some (.str "near"), some (.ref cp), some (.int f), some (.ref p), some (.ref lp'), some (.ref D), none, none, none, none, none, none, v15, v16, none] ∧ Same H7 H' ∧ H' p = some (.lst (refs N)) ∧ Cel K H' N ∧ LkU N)
          ⟨fp, none, none, [], rfl, Same.refl _, f7, Cel.nil, LkU.nil⟩ ?_ ?_
        · rintro j σ Hb hj ⟨p, v15, v16, N, rfl, kb, gN, cN, uN⟩
          walk_at "gx"
          generalize hd1 : (0 - n + (j : Int)) = dn
          have dn1 : -10 ≤ dn ∧ dn ≤ 10 := by omega
          have ab : 0 ≤ (if dn < 0 then -dn else dn) ∧ (if dn < 0 then -dn else dn) ≤ 10 := by split <;> omega
          generalize (if dn < 0 then -dn else dn) = an at ab
          walk_at "gx"
          refine lp_rng2 ⟨by omega, by omega, by omega, by omega⟩ (fun j2 σ H' => ∃ p v16 N, σ = [some (.ref a), some (.ref s), some (.ref i), some (.str "near"), some (.ref cp), some (.int f), some (.ref p), some (.ref lp'), some (.ref D), none, none, none, none, none, none, some (.int dn), v16, none] ∧ Same H7 H' ∧ H' p = some (.lst (refs N)) ∧ Cel K H' N ∧ LkU N)
            ⟨p, v16, N, rfl, kb, gN, cN, uN⟩ ?_ ?_
          · rintro j2 σ Hc hj2 ⟨p, v16, N, rfl, kc, gN, cN, uN⟩
            generalize (an - n + (j2 : Int)) = rt
            have hcc := Same.seqT kc hc7
            walk_at "gx"
            refine ⟨small (by simp), fun p1 n1 => ?_⟩
            generalize hE1 : upd Hc p1 _ = Hd; obtain ⟨kd, gd⟩ := updN n1 hE1
            walk_at "gx"
            have gd' : TI2 K Hd p1 [r + dn, c + rt] := SqT.of gd
            have kcd : Same H7 Hd := fun b u e => kd _ _ (kc _ _ e)
            refine ⟨a, p1, rows, W, _, _, [], rfl, Same.seqT kcd a7, I, gd', ?_⟩
            walk_at "gx"
            refine ⟨_, z, rfl, rfl, _, rfl, ?_⟩
            refine iteb (fun _ => ?_) (fun _ => ?_)
            · walk_at "gx"
              refine ⟨small (by simp), fun p2 n2 => ?_⟩
              generalize hE2 : upd Hd p2 _ = He; obtain ⟨ke, ge⟩ := updN n2 hE2
              walk_at "gx"
              exact ⟨p2, _, [(s, [r, c, f])], rfl, fun b u e => ke _ _ (kcd _ _ e), ge, fun q hq => by rw [List.mem_singleton.mp hq]; exact Same.seqT ke (Same.seqT kcd hs7), fun q hq => by rw [List.mem_singleton.mp hq]; exact hcU⟩
            · walk_at "gx"
              exact ⟨p, _, N, rfl, kcd, kd _ _ gN, Cel.same kd cN, uN⟩
          · rintro σ Hc ⟨p, v16, N, rfl, kc, gN, cN, uN⟩
            exact ⟨p, _, _, N, rfl, kc, gN, cN, uN⟩
        · rintro σ Hb ⟨p, v15, v16, N, rfl, kb, gN, cN, uN⟩
          exact fin _ Hb p N rfl (fun b u e => kb _ _ (s7 _ _ e)) gN cN uN
      | shore sd l m =>
        have i7 : SqT K H7 i [.str "shore", .int sd, .int l, .int m] := i7
        obtain ⟨sd13, l0, lm, m10⟩ := ok
        walk_at "gx"
        refine wdF (show ("shore" : Str) ≠ "turn" by decide) ?_
        walk_at "gx"
        refine wdF (show ("shore" : Str) ≠ "walk" by decide) ?_
        walk_at "gx"
        refine wdF (show ("shore" : Str) ≠ "until" by decide) ?_
        walk_at "gx"
        refine wdF (show ("shore" : Str) ≠ "toward" by decide) ?_
        walk_at "gx"
        refine wdF (show ("shore" : Str) ≠ "beside" by decide) ?_
        walk_at "gx"
        refine wdF (show ("shore" : Str) ≠ "near" by decide) ?_
        walk_at "gx"
        refine lp_rng1 (n := (m + 1).toNat) (by omega) (by omega) (fun j σ H' => ∃ v p v17 N, σ = [some (.ref a), some v, some (.ref i), some (.str "shore"), some (.ref cp), some (.int f), some (.ref p), some (.ref lp'), some (.ref D), none, none, none, none, none, none, none, none, v17] ∧ Same H7 H' ∧ StV K H' v ∧ H' p = some (.lst (refs N)) ∧ Cel K H' N ∧ LkU N ∧ N.length ≤ j)
          ⟨_, fp, none, [], rfl, Same.refl _, .inr ⟨s, _, rfl, hs7, hcU⟩, f7, Cel.nil, LkU.nil, Nat.le_refl _⟩ ?_ ?_
        · rintro j σ Hb hj ⟨v, p, v17, N, rfl, kb, sv, gN, cN, uN, lN⟩
          walk_at "gx"
          refine ⟨small (by simp), fun p1 n1 => ?_⟩
          generalize hE1 : upd Hb p1 _ = Hc; obtain ⟨kc, gc⟩ := updN n1 hE1
          -- behind the new list
          have rest : ∀ (bb : Bool) (Hd : Hp) (p5 : Addr), Same Hc Hd → Hd p5 = some (.lst (List.replicate (if bb = true then 1 else 0 : Int).toNat [v]).flatten) → (bb = true → v ≠ .non) → ∃ M2 : LK, Hd p5 = some (.lst (refs M2)) ∧ Cel K Hd M2 ∧ LkU M2 ∧ M2.length ≤ 1 := by
            intro bb Hd p5 kd gd hb
            cases bb with
            | false => exact ⟨[], gd, Cel.nil, LkU.nil, Nat.zero_le _⟩
            | true =>
              rcases sv with e | ⟨sp, k, rfl, tk, uk⟩
              · exact absurd e (hb rfl)
              · exact ⟨[(sp, k)], gd, fun q hq => by rw [List.mem_singleton.mp hq]; exact Same.seqT kd (Same.seqT kc tk), fun q hq => by rw [List.mem_singleton.mp hq]; exact uk, Nat.le_refl _⟩
          have next : ∀ (v : V) (Hk : Hp) (p6 : Addr) (M2 : LK), Same H7 Hk → StV K Hk v → Hk p6 = some (.lst (refs M2)) → Cel K Hk M2 → LkU M2 → M2.length ≤ j + 1 →
              tAsg (tIf (tTest (tOp (fun x y H Q => y = V.non ∧ Q (V.bl (!decide (x = V.non))) H) (tVar 1) (tC V.non))) (tCall (spShore K) [] E0 (tCons (tVar 0) (tCons (tVar 1) (tCons (tOp (rIxT K) (tVar 2) (tC (V.int 1))) tNil)))) (tC V.non)) (gName 1)
                { nx := fun σ H' => ∃ v p v17 N, σ = [some (.ref a), some v, some (.ref i), some (.str "shore"), some (.ref cp), some (.int f), some (.ref p), some (.ref lp'), some (.ref D), none, none, none, none, none, none, none, none, v17] ∧ Same H7 H' ∧ StV K H' v ∧ H' p = some (.lst (refs N)) ∧ Cel K H' N ∧ LkU N ∧ N.length ≤ j + 1, rt := Q }
                [some (.ref a), some v, some (.ref i), some (.str "shore"), some (.ref cp), some (.int f), some (.ref p6), some (.ref lp'), some (.ref D), none, none, none, none, none, none, none, none, some (.int (j : Int))] Hk := by
            intro v Hk p6 M2 kk sv2 g6 c6 u6 l6
            walk_at "gx"
            refine ⟨rfl, _, rfl, ?_⟩
            rcases sv2 with rfl | ⟨sp, k, rfl, tk, uk⟩
            · refine ifF (by rfl) ?_
              walk_at "gx"
              exact ⟨.non, p6, _, M2, rfl, kk, .inl rfl, g6, c6, u6, l6⟩
            · refine ifT (by rfl) ?_
              obtain ⟨r1, c1, f1, rfl, b1, b2, b3⟩ := of_U64 uk
              walk_at "gx"
              refine ⟨a, sp, rows, W, r1, c1, f1, sd, rfl, Same.seqT kk a7, I, tk, by omega, by omega, fun Hl kl => ?_, fun p8 Hl k8 kl tl ul => ?_⟩
              · walk_at "gx"
                exact ⟨.non, p6, _, M2, rfl, fun b u e => kl _ _ (kk _ _ e), .inl rfl, kl _ _ g6, Cel.same kl c6, u6, l6⟩
              · walk_at "gx"
                exact ⟨.ref p8, p6, _, M2, rfl, fun b u e => kl _ _ (kk _ _ e), .inr ⟨p8, k8, rfl, tl, ul⟩, kl _ _ g6, Cel.same kl c6, u6, l6⟩
          have join : ∀ (bb : Bool), (bb = true → v ≠ .non) → rRep (.ref p1) (.int (if bb = true then 1 else 0)) Hc (fun x H1 => rCat (.ref p) x H1 fun x H1 => gName 6 x [some (.ref a), some v, some (.ref i), some (.str "shore"), some (.ref cp), some (.int f), some (.ref p), some (.ref lp'), some (.ref D), none, none, none, none, none, none, none, none, some (.int (j : Int))] H1
              (tAsg (tIf (tTest (tOp (fun x y H Q => y = V.non ∧ Q (V.bl (!decide (x = V.non))) H) (tVar 1) (tC V.non))) (tCall (spShore K) [] E0 (tCons (tVar 0) (tCons (tVar 1) (tCons (tOp (rIxT K) (tVar 2) (tC (V.int 1))) tNil)))) (tC V.non)) (gName 1)
                { nx := fun σ H' => ∃ v p v17 N, σ = [some (.ref a), some v, some (.ref i), some (.str "shore"), some (.ref cp), some (.int f), some (.ref p), some (.ref lp'), some (.ref D), none, none, none, none, none, none, none, none, v17] ∧ Same H7 H' ∧ StV K H' v ∧ H' p = some (.lst (refs N)) ∧ Cel K H' N ∧ LkU N ∧ N.length ≤ j + 1, rt := Q })) := by
            intro bb hb
            refine ⟨p1, _, _, rfl, rfl, gc, by split <;> decide, by split <;> decide, small (by split <;> simp), fun p5 n5 => ?_⟩
            generalize hE5 : upd Hc p5 _ = Hd; obtain ⟨kd, gd⟩ := updN n5 hE5
            obtain ⟨M2, g2, c2, u2, l2⟩ := rest bb Hd p5 kd gd hb
            have kbd : Same Hb Hd := fun b u e => kd _ _ (kc _ _ e)
            refine w_cat (kbd _ _ gN) g2 (small (by rw [refs_len, refs_len]; omega)) fun p6 Hk n6 kk gk => ?_
            refine w_gname ?_
            have kbk : Same Hb Hk := fun b u e => kk _ _ (kbd _ _ e)
            exact next v Hk p6 (N ++ M2) (fun b u e => kbk _ _ (kb _ _ e)) (StV.same kbk sv) (by rw [← refs_app]; exact gk) ((Cel.same kbk cN).app (Cel.same kk c2)) (fun q hq => (List.mem_append.mp hq).elim (uN q) (u2 q)) (by rw [List.length_append]; omega)
          walk_at "gx"
          refine ited (fun hl => ?_) (fun hl => ?_)
          · walk_at "gx"
            refine ⟨rfl, ?_⟩
            walk_at "gx"
            refine .inr ⟨_, rfl, ?_⟩
            exact join (!decide (v = V.non)) fun e z => by
              rw [z] at e
              cases e
          · walk_at "gx"
            refine .inr ⟨_, rfl, ?_⟩
            exact join false fun e => by cases e
        · rintro σ Hb ⟨v, p, v17, N, rfl, kb, sv, gN, cN, uN, lN⟩
          exact fin _ Hb p N rfl (fun b u e => kb _ _ (s7 _ _ e)) gN cN uN
end
end
section
section
variable {P : Program} {w : World} {K : PySem.W.Frag} {mg : Str → Option Value} {base : Heap}
/-! #### all states behind an instruction -/
def spBehind (K : PySem.W.Frag) : Sp := fun vs H Q _ => ∃ (a p i : Addr) (rows : List Str) (W : Nat) (L : LK) (d : InD), vs = [.ref a, .ref p, .ref i] ∧ SqT K H a (rows.map V.str) ∧ Isl rows W ∧ SqL K H p (refs L) ∧ Cel K H L ∧ LkU L ∧ L.length ≤ 64 ∧ InAt K H i d ∧ InOk d ∧
  ∀ p H' (L : LK), H p = none → Same H H' → H' p = some (.lst (refs L)) → Cel K H' L → LkU L → L.length ≤ 64 → Q (.ref p) H'
abbrev s__law_behind : Stmt := top 55
theorem sc__law_behind : FnScope ["_law_rows_here", "_law_states", "_law_instruction", "_law_found", "_law_state"] ["_law_rows_here", "_law_states", "_law_instruction"] (defScope s__law_behind) := ⟨rfl, rfl, rfl, by decide +kernel, rfl, by decide +kernel, by decide +kernel⟩
theorem ok_behind (D : DefAt K mg "_law_behind" s__law_behind ["_law_rows_here", "_law_states", "_law_instruction"]) (T : Txt K mg) (D__law_steps : DefOk P w K mg base CX0 3 "_law_steps" (spSteps K)) : DefOk P w K mg base CX0 4 "_law_behind" (spBehind K) := by
  refine D.ok sc__law_behind (fun vs H Q E h => ?_) (fun fa cdv A outer s0 H vs Q E hr hh => ?_)
  · obtain ⟨a, p, i, rows, W, L, d, rfl, _⟩ := h
    rfl
  · obtain ⟨a, p, i, rows, W, L, d, rfl, ha, I, hp, cL, uL, lL, hi, ok, q⟩ := hh
    refine ⟨_, (pss_cons (ps_set (i := 3) sc__law_behind.nd rfl (by first | exact Or.inl rfl | exact Or.inr rfl) (pe_lst pa_nil)) (pss_cons (ps_for PassesOwn.never rfl (show PI _ _ _ (iList K _) from pi_list (pv 1)) (pg_name (i := 4) sc__law_behind.nd rfl (by first | exact Or.inl rfl | exact Or.inr rfl)) (pss_one (ps_set (i := 3) sc__law_behind.nd rfl (by first | exact Or.inl rfl | exact Or.inr rfl) (pe_op op_cat (pv 3) (pe_c D__law_steps (hr.mono (by decide)) pass0 (pa_cons (pv 0) (pa_cons (pv 4) (pa_cons (pv 2) pa_nil)))))))) (pss_one (ps_ret (pe_callB (S6.cr_sorted6 rfl hr.units) rfl T.b_sorted bt_sorted (pa_cons (pe_callTy (S6.cr_set6 (U := U64) rfl hr.units) rfl T.b_set bt_set (pa_cons (pv 3) pa_nil)) pa_nil)))))), ?_⟩
    walk_at "gx"
    refine ⟨small (by simp), fun p1 n1 => ?_⟩
    generalize hE1 : upd H p1 _ = H1; obtain ⟨k1, g1⟩ := updN n1 hE1
    walk_at "gx"
    refine lp_list (xs := refs L) (Same.seq k1 hp) (fun j σ H' => ∃ p3 v N, σ = [some (.ref a), some (.ref p), some (.ref i), some (.ref p3), v] ∧ Same H H' ∧ H' p3 = some (.lst (refs N)) ∧ Cel K H' N ∧ LkU N ∧ N.length ≤ 64 * j)
      ⟨p1, none, [], rfl, k1, g1, Cel.nil, LkU.nil, Nat.le_refl _⟩ (fun j σ H' _ z => by obtain ⟨_, _, _, _, e, _⟩ := z; exact Same.seq e hp) ?_ ?_
    · rintro j x σ H2 hx ⟨p3, v, N, rfl, sm, gN, cN, uN, lN⟩
      have jl := (List.getElem?_eq_some_iff.mp hx).1
      rw [refs_len] at jl
      obtain ⟨q1, hq1, rfl⟩ := refs_get hx
      have m1 := List.mem_of_getElem? hq1
      walk_at "gx"
      refine ⟨a, q1.1, i, rows, W, q1.2, d, rfl, Same.seqT sm ha, I, Same.seqT sm (cL q1 m1), uL q1 m1, InAt.same sm hi, ok, fun p4 H3 M n4 k4 g4 cM uM lM => ?_⟩
      refine w_cat (k4 _ _ gN) g4 (small (by rw [refs_len, refs_len]; omega)) fun p5 H5 n5 k5 g5 => ?_
      walk_at "gx"
      exact ⟨p5, _, N ++ M, rfl, fun b u e => k5 _ _ (k4 _ _ (sm _ _ e)), by rw [← refs_app]; exact g5, (Cel.same k5 (Cel.same k4 cN)).app (Cel.same k5 cM), fun q hq => (List.mem_append.mp hq).elim (uN q) (uM q), by rw [List.length_append]; omega⟩
    · rintro σ H2 ⟨p3, v, N, rfl, sm, gN, cN, uN, lN⟩
      refine w_ret (w_cb (w_cons (w_cb (w_cons (w_var rfl (w_nil ?_))))))
      refine ⟨p3, N, rfl, SqL.of gN, fun q hq => ⟨cN q hq, uN q hq⟩, U64_len, fun a2 M n2 sub lm => ?_⟩
      generalize hE : upd H2 a2 _ = H3; obtain ⟨k3, g3⟩ := updN n2 hE
      refine w_nil ⟨a2, M, rfl, g3, fun q hq => ⟨Same.seqT k3 (cN q (sub q hq)), fun e => ?_⟩, fun M' p3 sub3 len3 n3 => ?_⟩
      · have u := uN q (sub q hq)
        rw [e] at u
        exact absurd u (by decide)
      · generalize hE3 : upd H3 p3 _ = H4; obtain ⟨k4, g4⟩ := updN n3 hE3
        exact q p3 H4 M' (none_back (fun b u e => k3 _ _ (sm _ _ e)) n3) (fun b u e => k4 _ _ (k3 _ _ (sm _ _ e))) g4 (fun q hq => Same.seqT k4 (Same.seqT k3 (cN q (sub q (sub3 q hq))))) (fun q hq => uN q (sub q (sub3 q hq))) (by omega)
/-! #### a drawn chart -/
abbrev IL := List (Addr × InD)
structure DrAt (K : PySem.W.Frag) (H : Hp) (d : Addr) (rows : List Str) (z : Str) (fs : List Int) (ds : IL) : Prop where
  ex : ∃ ra fa ia, SqT K H d [.ref ra, .str z, .ref fa, .ref ia] ∧ SqT K H ra (rows.map V.str) ∧ SqT K H fa (fs.map V.int) ∧ SqT K H ia (ds.map fun p => V.ref p.1)
  ins : ∀ p ∈ ds, InAt K H p.1 p.2
structure DrOk (rows : List Str) (W : Nat) (z : Str) (fs : List Int) (ds : IL) : Prop where
  isl : Isl rows W
  z1 : 1 ≤ z.cps.size
  z10 : z.cps.size ≤ 10
  zs : ∀ c ∈ z.cps.toList, c ∈ sgs
  f1 : 1 ≤ fs.length
  f4 : fs.length ≤ 4
  fs : ∀ t ∈ fs, 0 ≤ t ∧ t < 4
  dl : ds.length ≤ 10
  dok : ∀ p ∈ ds, InOk p.2
theorem DrAt.same {H H' : Hp} {d : Addr} {rows : List Str} {z : Str} {fs : List Int} {ds : IL} (s : Same H H') (h : DrAt K H d rows z fs ds) : DrAt K H' d rows z fs ds := by
  obtain ⟨ra, fa, ia, h1, h2, h3, h4⟩ := h.ex
  exact ⟨⟨ra, fa, ia, Same.seqT s h1, Same.seqT s h2, Same.seqT s h3, Same.seqT s h4⟩, fun p hp => InAt.same s (h.ins p hp)⟩
def spBegin (K : PySem.W.Frag) : Sp := fun vs H Q _ => ∃ (d : Addr) (rows : List Str) (W : Nat) (z : Str) (fs : List Int) (ds : IL), vs = [.ref d] ∧ DrAt K H d rows z fs ds ∧ DrOk rows W z fs ds ∧
  ∀ p H' (L : LK), H p = none → Same H H' → H' p = some (.lst (refs L)) → Cel K H' L → LkU L → L.length ≤ 64 → Q (.ref p) H'
abbrev s__law_begin : Stmt := top 56
theorem sc__law_begin : FnScope ["_law_drawn_here", "_law_found", "_law_cell", "_law_facing"] ["_law_drawn_here"] (defScope s__law_begin) := ⟨rfl, rfl, rfl, by decide +kernel, rfl, by decide +kernel, by decide +kernel⟩
theorem ok_begin (D : DefAt K mg "_law_begin" s__law_begin ["_law_drawn_here"]) (T : Txt K mg) (D__law_cells : DefOk P w K mg base CX0 1 "_law_cells" (spCells K)) (D__law_sign : DefOk P w K mg base CX0 1 "_law_sign" (spSign K)) : DefOk P w K mg base CX0 2 "_law_begin" (spBegin K) := by
  refine D.ok sc__law_begin (fun vs H Q E h => ?_) (fun fa cdv A outer s0 H vs Q E hr hh => ?_)
  · obtain ⟨d, rows, W, z, fs, ds, rfl, _⟩ := h
    rfl
  · obtain ⟨d, rows, W, z, fs, ds, rfl, hd, ok, q⟩ := hh
    obtain ⟨ra, fa, ia, h1, h2, h3, h4⟩ := hd.ex
    have I := ok.isl
    have I4 := I.r4
    have Iw := I.w4
    have f4 := ok.f4
    refine ⟨_, (pss_cons (ps_set (i := 1) sc__law_begin.nd rfl (by first | exact Or.inl rfl | exact Or.inr rfl) (pe_lst pa_nil)) (pss_cons (ps_for PassesOwn.never rfl (show PI _ _ _ (iList K _) from pi_list (pe_c D__law_cells (hr.mono (by decide)) pass0 (pa_cons (pe_ix (show IxR _ (rIxT K) from ix_tup) (pv 0) pe_int (fun _ _ => rfl)) pa_nil))) (pg_name (i := 2) sc__law_begin.nd rfl (by first | exact Or.inl rfl | exact Or.inr rfl)) (pss_one (ps_if (pt_cmpR op_in_sign (pe_c D__law_sign (hr.mono (by decide)) pass0 (pa_cons (pe_ix (show IxR _ (rIxT K) from ix_tup) (pv 0) pe_int (fun _ _ => rfl)) (pa_cons (pv 2) pa_nil))) (pe_ix (show IxR _ (rIxT K) from ix_tup) (pv 0) pe_int (fun _ _ => rfl)) rfl) (pss_one (ps_set (i := 1) sc__law_begin.nd rfl (by first | exact Or.inl rfl | exact Or.inr rfl) (pe_op op_cat (pv 1) (pe_lc (own := [("_law_facing", 3)]) rfl sc__law_begin.nd (show PI _ _ _ (iTup K _) from pi_tup (pe_ix (show IxR _ (rIxT K) from ix_tup) (pv 0) pe_int (fun _ _ => rfl))) (blkOk_by (own := [("_law_facing", 3)]) (N := ["_law_drawn_here", "_law_found", "_law_cell", "_law_facing"]) (sc := defScope s__law_begin) (by decide +kernel)) (fun _ _ _ _ _ => (pg_name (i := 3) sc__law_begin.nd rfl (by first | exact Or.inl rfl | exact Or.inr rfl))) (fun _ _ _ _ _ => pts_nil) (fun _ _ _ _ _ => (pe_op (show OpR _ (binaryOp .Add) (rCatA K) from op_catA) (pv 2) (pe_tup (pa_cons (pv 3) pa_nil)))))))) pss_nil))) (pss_one (ps_ret (pv 1))))), ?_⟩
    walk_at "gx"
    refine ⟨small (by simp), fun p1 n1 => ?_⟩
    generalize hE1 : upd H p1 _ = H1; obtain ⟨k1, g1⟩ := updN n1 hE1
    walk_at "gx"
    refine ⟨ra, rows, W, rfl, Same.seqT k1 h2, I, fun lp H2 A n2 k2 g2 cA iA lA _ => ?_⟩
    have s2 : Same H H2 := fun b u e => k2 _ _ (k1 _ _ e)
    walk_at "gx"
    refine lp_list (xs := refs A) (SqL.of g2) (fun j σ H' => ∃ p3 v v' N, σ = [some (.ref d), some (.ref p3), v, v'] ∧ H p3 = none ∧ Same H2 H' ∧ H' p3 = some (.lst (refs N)) ∧ Cel K H' N ∧ LkU N ∧ N.length ≤ 4 * j)
      ⟨p1, none, none, [], rfl, n1, Same.refl _, k2 _ _ g1, Cel.nil, LkU.nil, Nat.le_refl _⟩ (fun j σ H' _ z => by obtain ⟨_, _, _, _, _, _, e, _⟩ := z; exact Same.seq e (SqL.of g2)) ?_ ?_
    · rintro j x σ H3 hx ⟨p3, v, v', N, rfl, np, sm, gN, cN, uN, lN⟩
      have jl := (List.getElem?_eq_some_iff.mp hx).1
      rw [refs_len] at jl
      obtain ⟨q1, hq1, rfl⟩ := refs_get hx
      have m1 := List.mem_of_getElem? hq1
      obtain ⟨r1, c1, e1, b1, b2, b3, b4⟩ := iA q1 m1
      have t1 := cA q1 m1
      rw [e1] at t1
      have s3 : Same H H3 := fun b u e => sm _ _ (s2 _ _ e)
      have h13 := Same.seqT s3 h1
      walk_at "gx"
      refine ⟨ra, q1.1, rows, W, r1, c1, [], rfl, Same.seqT s3 h2, I, Same.seqT sm t1, ?_⟩
      walk_at "gx"
      refine ⟨_, z, rfl, rfl, _, rfl, ?_⟩
      refine iteb (fun _ => ?_) (fun _ => ?_)
      · walk_at "gx"
        refine lc_tup (xs := fs.map V.int) (Same.seqT s3 h3) (fun i D H' => H3 D = none ∧ Same H3 H' ∧ ∃ M : LK, H' D = some (.lst (refs M)) ∧ Cel K H' M ∧ LkU M ∧ M.length ≤ i)
          (fun D hD => ⟨hD, Same.updD (Same.refl _) hD, [], upd_same, Cel.nil, LkU.nil, Nat.le_refl _⟩) (fun i D H' _ p => Same.seqT p.2.1 (Same.seqT s3 h3)) ?_ ?_
        · rintro i D H4 x hx ⟨hD, k4, M, gM, cM, uM, lM⟩
          have il := (List.getElem?_eq_some_iff.mp hx).1
          rw [List.length_map] at il
          obtain ⟨t, rfl, ht⟩ := take_intsV hx
          have ft := ok.fs t (List.mem_of_getElem? ht)
          walk_at "gx"
          refine ⟨rfl, ?_⟩
          walk_at "gx"
          refine ⟨small (by simp), fun p5 n5 => ?_⟩
          generalize hE5 : upd H4 p5 _ = H5; obtain ⟨k5, g5⟩ := updN n5 hE5
          refine w_catA (Same.seqT k5 (Same.seqT k4 (Same.seqT sm t1))) (SqT.of g5) (small (by simp)) fun p6 H6 k6 g6 => ?_
          have g6' : TI2 K H6 p6 [r1, c1, t] := g6
          have gM6 := k6 _ _ (k5 _ _ gM)
          exact ⟨_, gM6, smallL (by rw [refs_len]; omega), hD, Same.updD (fun b u e => k6 _ _ (k5 _ _ (k4 _ _ e))) hD, M ++ [(p6, [r1, c1, t])], by rw [upd_same, refs_snoc], Cel.updL gM6 ((Cel.same k6 (Cel.same k5 cM)).snoc g6'), uM.snoc (mem_U64 (by omega) (by omega) ft), by rw [List.length_append]; simp; omega⟩
        · rintro D H4 ⟨hD, k4, M, gM, cM, uM, lM⟩
          rw [List.length_map] at lM
          refine w_cat (k4 _ _ gN) gM (small (by rw [refs_len, refs_len]; omega)) fun p5 H5 n5 k5 g5 => ?_
          walk_at "gx"
          exact ⟨p5, _, _, N ++ M, rfl, none_back (fun b u e => k4 _ _ (s3 _ _ e)) n5, fun b u e => k5 _ _ (k4 _ _ (sm _ _ e)), by rw [← refs_app]; exact g5, (Cel.same k5 (Cel.same k4 cN)).app (Cel.same k5 cM), fun q hq => (List.mem_append.mp hq).elim (uN q) (uM q), by rw [List.length_append]; omega⟩
      · walk_at "gx"
        exact ⟨p3, _, _, N, rfl, np, sm, gN, cN, uN, by omega⟩
    · rintro σ H3 ⟨p3, v, v', N, rfl, np, sm, gN, cN, uN, lN⟩
      rw [refs_len] at lN
      walk_at "gx"
      exact q p3 H3 N np (fun b u e => sm _ _ (s2 _ _ e)) gN cN uN (by omega)
abbrev s__law_final : Stmt := top 57
theorem sc__law_final : FnScope ["_law_drawn_here", "_law_states", "_law_instruction"] ["_law_drawn_here"] (defScope s__law_final) := ⟨rfl, rfl, rfl, by decide +kernel, rfl, by decide +kernel, by decide +kernel⟩
theorem ok_final (D : DefAt K mg "_law_final" s__law_final ["_law_drawn_here"]) (T : Txt K mg) (D__law_begin : DefOk P w K mg base CX0 2 "_law_begin" (spBegin K)) (D__law_behind : DefOk P w K mg base CX0 4 "_law_behind" (spBehind K)) : DefOk P w K mg base CX0 5 "_law_final" (spBegin K) := by
  refine D.ok sc__law_final (fun vs H Q E h => ?_) (fun fa cdv A outer s0 H vs Q E hr hh => ?_)
  · obtain ⟨d, rows, W, z, fs, ds, rfl, _⟩ := h
    rfl
  · obtain ⟨d, rows, W, z, fs, ds, rfl, hd, ok, q⟩ := hh
    obtain ⟨ra, fa, ia, h1, h2, h3, h4⟩ := hd.ex
    refine ⟨_, (pss_cons (ps_set (i := 1) sc__law_final.nd rfl (by first | exact Or.inl rfl | exact Or.inr rfl) (pe_c D__law_begin (hr.mono (by decide)) pass0 (pa_cons (pv 0) pa_nil))) (pss_cons (ps_for PassesOwn.never rfl (show PI _ _ _ (iTup K _) from pi_tup (pe_ix (show IxR _ (rIxT K) from ix_tup) (pv 0) pe_int (fun _ _ => rfl))) (pg_name (i := 2) sc__law_final.nd rfl (by first | exact Or.inl rfl | exact Or.inr rfl)) (pss_one (ps_set (i := 1) sc__law_final.nd rfl (by first | exact Or.inl rfl | exact Or.inr rfl) (pe_c D__law_behind (hr.mono (by decide)) pass0 (pa_cons (pe_ix (show IxR _ (rIxT K) from ix_tup) (pv 0) pe_int (fun _ _ => rfl)) (pa_cons (pv 1) (pa_cons (pv 2) pa_nil))))))) (pss_one (ps_ret (pv 1))))), ?_⟩
    walk_at "gx"
    refine ⟨d, rows, W, z, fs, ds, rfl, hd, ok, fun p1 H1 L n1 k1 g1 c1 u1 l1 => ?_⟩
    have h11 := Same.seqT k1 h1
    walk_at "gx"
    refine lp_tup (xs := ds.map fun p => V.ref p.1) (Same.seqT k1 h4) (fun j σ H' => ∃ p3 v N, σ = [some (.ref d), some (.ref p3), v] ∧ H p3 = none ∧ Same H H' ∧ H' p3 = some (.lst (refs N)) ∧ Cel K H' N ∧ LkU N ∧ N.length ≤ 64)
      ⟨p1, none, L, rfl, n1, k1, g1, c1, u1, l1⟩ (fun j σ H' _ z => by obtain ⟨_, _, _, _, _, e, _⟩ := z; exact Same.seqT e h4) ?_ ?_
    · rintro j x σ H3 hx ⟨p3, v, N, rfl, np, sm, gN, cN, uN, lN⟩
      obtain ⟨q1, m1, rfl⟩ : ∃ q1 ∈ ds, x = .ref q1.1 := by
        obtain ⟨q1, m1, e⟩ := List.mem_map.mp (List.mem_of_getElem? hx)
        exact ⟨q1, m1, e.symm⟩
      have h13 := Same.seqT sm h1
      walk_at "gx"
      refine ⟨ra, p3, q1.1, rows, W, N, q1.2, rfl, Same.seqT sm h2, ok.isl, SqL.of gN, cN, uN, lN, InAt.same sm (hd.ins q1 m1), ok.dok q1 m1, fun p4 H4 M n4 k4 g4 c4 u4 l4 => ?_⟩
      walk_at "gx"
      exact ⟨p4, _, M, rfl, none_back sm n4, fun b u e => k4 _ _ (sm _ _ e), g4, c4, u4, l4⟩
    · rintro σ H3 ⟨p3, v, N, rfl, np, sm, gN, cN, uN, lN⟩
      walk_at "gx"
      exact q p3 H3 N np sm gN cN uN lN
end
end
section
/-! ### texts: joined, stretched, struck out -/
abbrev esg : Str := ⟨#[]⟩
theorem join0_cps (ys : List Str) : (Txt.join esg ys).cps.toList = (ys.map fun y => y.cps.toList).flatten := by
  have e0 : Txt.join esg ys = Str.join esg ys := StrLaws.glued_eq_join esg ys
  rw [e0]
  clear e0
  induction ys with
  | nil => rfl
  | cons y r ih =>
    cases r with
    | nil =>
      show y.cps.toList = _
      simp
    | cons z r =>
      show (y ++ esg ++ Str.join esg (z :: r)).cps.toList = _
      rw [Str.cps_append, Str.cps_append, Array.toList_append, Array.toList_append, ih]
      simp
theorem join0_ones (l : List Nat) : (Txt.join esg (l.map sg)).cps.toList = l := by
  rw [join0_cps, List.map_map]
  induction l with
  | nil => rfl
  | cons c l ih =>
    rw [List.map_cons, List.flatten_cons, ih]
    rfl
theorem sum_ones (l : List Nat) : ((l.map sg).map fun z : Str => z.length).sum = l.length := by
  rw [List.map_map]
  induction l with
  | nil => rfl
  | cons c l ih =>
    rw [List.map_cons, List.sum_cons, ih, List.length_cons]
    show 1 + _ = _
    omega
theorem sum_le {ys : List Str} {n : Nat} (h : ∀ y ∈ ys, y.length ≤ n) : (ys.map fun z : Str => z.length).sum ≤ ys.length * n := by
  induction ys with
  | nil => simp
  | cons y r ih =>
    rw [List.map_cons, List.sum_cons, List.length_cons, Nat.succ_mul]
    have a := h y List.mem_cons_self
    have b := ih fun z hz => h z (List.mem_cons_of_mem _ hz)
    omega
theorem cps_ext {a b : Str} (h : a.cps.toList = b.cps.toList) : a = b := by
  cases a; cases b
  exact congrArg Str.mk (Array.toList_inj.mp h)
theorem esg_iff (z : Str) : z = esg ↔ z.cps.toList = [] := ⟨fun e => by rw [e], fun e => cps_ext e⟩
section
variable {P : Program} {w : World}
def rMulS : R2 := fun x y H Q => ∃ (c : Nat) (n : Int), x = .str (sg c) ∧ y = .int n ∧ 0 ≤ n ∧ n ≤ 1000 ∧ Q (.str ⟨(List.replicate n.toNat c).toArray⟩) H
theorem op_mul_si {X : Cx} : OpR X (binaryOp .Mult) rMulS := by
  intro pins s σ H x y v u Q I rx ry h
  obtain ⟨c, n, rfl, rfl, n0, n1, q⟩ := h
  obtain ⟨t, rfl⟩ := rx
  obtain ⟨t', rfl⟩ := ry
  have e : Txt.mul (sg c) n = ⟨(List.replicate n.toNat c).toArray⟩ := cps_ext (by rw [PyProof.Rows.mul_one_list])
  refine SB.mul (PyProof.Rows.mulOk_of (x := sg c) 1 1000 (Nat.le_refl 1) n1 (by omega) (by decide) (by decide)) fun t2 k => ?_
  rw [e]
  exact ⟨.str _, H, I.tok k, ⟨t2, rfl⟩, q⟩
/-- ''.join(e).replace(c, '') : behind the join a token is out -/
theorem pe_srep {X : Cx} {e : Expr} {te : TE} {x y z : Str} {i j k : Nat} {c0 c1 c2 p1 p2 p3 p4 : Pos} (he : PE X e te) (hyz : (y == z) = false := by decide)
    (hs : starEach [e] X.env = [(false, eval e X.env)] := by rfl)
    (hst : starEach [.Constant (.str y) j c0, .Constant (.str z) k c1] X.env = [(false, eval (.Constant (.str y) j c0) X.env), (false, eval (.Constant (.str z) k c1) X.env)] := by rfl)
    (hb1 : attributeBase (.Constant (.str x) i c2) "join" X.env (eval (.Constant (.str x) i c2) X.env) = eval (.Constant (.str x) i c2) X.env := by rfl) (hl1 : (p1.endLine == p2.line) = true := by rfl)
    (hbase : attributeBase (.Call (.Attribute (.Constant (.str x) i c2) "join" p1) [e] [] p2) "replace" X.env (eval (.Call (.Attribute (.Constant (.str x) i c2) "join" p1) [e] [] p2) X.env) = eval (.Call (.Attribute (.Constant (.str x) i c2) "join" p1) [e] [] p2) X.env := by rfl) (hline : (p3.endLine == p4.line) = true := by rfl) :
    PE X (.Call (.Attribute (.Call (.Attribute (.Constant (.str x) i c2) "join" p1) [e] [] p2) "replace" p3) [.Constant (.str y) j c0, .Constant (.str z) k c1] [] p4)
      (CwR.tReplC (fun σ H Q => te σ H fun v H2 => ∃ (p : Addr) (ys : List Str), v = .ref p ∧ (SqL X.K H2 p (ys.map V.str) ∨ SqT X.K H2 p (ys.map V.str)) ∧ (ys.map fun z : Str => z.length).sum + ys.length * x.length ≤ 16777216 ∧ Q (.str (Txt.join x ys)) H2) y z) := by
  refine ⟨fun pins s σ H Q I h => ?_⟩
  refine PySem.Call_method2 hbase hst hline ?_
  refine PySem.Call_method1 hb1 hs hl1 (Calls.Constant_str ?_)
  refine ⟨"str", _, F.plainAttrs_str, F.slot_str_join, F.type_str_join, typeIs_str _ _ _, (fun _ e => nomatch e), Calls.callWith_builtin rfl (Calls.evalArgs_plain (Calls.spliced_cons ?_))⟩
  refine wpAny_mono (PySem.wpAny_toks (he.run pins { s with toks := s.toks + 1 } σ H _ (I.tok _) h)) (fun v s1 q => ?_) fun _ _ z => z.2
  obtain ⟨hk, v', H1, I1, r1, p, ys, e1, hp, hz, q⟩ := q
  subst e1
  refine Calls.spliced_nil ?_
  refine wpAny_mono (PySem.wpAny_toks (mt_join pins s1 σ H1 (.str x) [.ref p] (.str x s.toks) [v] (fun u H' => u = .str (Txt.join x ys) ∧ H' = H1) I1 ⟨_, rfl⟩ (.cons r1 .nil) ⟨x, p, ys, rfl, rfl, hp, hz, rfl, rfl⟩)) (fun v2 s2 q2 => ?_) fun _ _ z => z.2
  obtain ⟨hk2, u2, H2, I2, r2, e2, e3⟩ := q2
  subst e2 e3
  obtain ⟨y2, hy2, hb, q⟩ := q
  cases hy2
  obtain ⟨tx, e4⟩ := r2
  subst e4
  have k1 : s.toks + 1 ≤ s1.toks := hk
  refine ⟨"str", _, PySem.F.plainAttrs_str, PySem.F.slot_str_replace, PySem.F.type_str_replace, typeIs_str _ _ _, (fun _ e => nomatch e), Calls.callWith_builtin rfl (Calls.evalArgs_plain (Calls.spliced_cons ?_))⟩
  refine Calls.Constant_str (Calls.spliced_cons (Calls.Constant_str (Calls.spliced_nil ?_)))
  exact PySem.SC.replace (by show s2.toks ≠ 0; omega) (by show s2.toks + 1 ≠ 0; omega) (by show s2.toks ≠ s2.toks + 1; omega) hyz hb fun t' k => ⟨.str (Txt.replace (Txt.join x ys) y z), H2, I2.tok k, ⟨t', rfl⟩, q⟩
end
end
section
/-! ### the drawing of signs, turns, rows -/
theorem Hst.ne {H : Hp} {h hc D : Addr} (k : Hst H h hc) (n : H D = none) : D ≠ h ∧ D ≠ hc := by
  obtain ⟨st, ix, cells, h1, h2, _⟩ := k
  exact ⟨fun e => (by rw [e, h1] at n; cases n), fun e => (by rw [e, h2] at n; cases n)⟩
theorem Hst.upd {H : Hp} {h hc D : Addr} {o : HO} (k : Hst H h hc) (d : D ≠ h ∧ D ≠ hc) : Hst (upd H D o) h hc := by
  obtain ⟨st, ix, cells, h1, h2, r⟩ := k
  exact ⟨st, ix, cells, by rw [upd_ne d.1.symm]; exact h1, by rw [upd_ne d.2.symm]; exact h2, r⟩
theorem MvH.updD {H H' : Hp} {h hc D : Addr} {o : HO} (m : MvH h hc H H') (n : H D = none) : MvH h hc H (upd H' D o) := fun b u b1 b2 e => by
  rw [upd_ne (ne_of_none e n)]
  exact m b u b1 b2 e
structure SgOk (z : Str) : Prop where
  z1 : 1 ≤ z.cps.size
  z10 : z.cps.size ≤ 10
  zs : ∀ c ∈ z.cps.toList, c ∈ sgs
theorem eqv_nilT (ds : List PyData) : PyData.eqv (.tuple ds) (.tuple []) = ds.isEmpty := by
  cases ds <;> simp [PyData.eqv, PyData.eqvAll]
/-- xs != () of a tuple -/
theorem w_neNilT {K : PySem.W.Frag} {H : Hp} {p q : Addr} {ds : List PyData} {n : Nat} {Q : VK} (h1 : Dp K H (.ref p) (.tuple ds)) (h2 : SqT K H q []) (hs : Shp n (.tuple ds)) (hn : n ≤ 64) (k : Q (.bl (!ds.isEmpty)) H) : rNeD K (.ref p) (.ref q) H Q := by
  refine ⟨_, _, h1, .tup h2 .nil, hs.shaped hn, Shp.shaped (n := 1) (fun x hx => by cases hx) (by decide), ?_⟩
  rw [eqv_nilT]
  exact k
section
variable {P : Program} {w : World} {K : PySem.W.Frag} {mg : Str → Option Value} {base : Heap}
def spSigns : Sp := fun vs H Q _ => ∃ (h hc : Addr) (z : Str), vs = [.ref h, .str z] ∧ Hst H h hc ∧ SgOk z ∧ ∀ z' H', SgOk z' → MvH h hc H H' → Hst H' h hc → Q (.str z') H'
abbrev s__law_signs : Stmt := top 58
theorem sc__law_signs : FnScope ["_law_h", "_law_known", "_law_found", "_law_sign_here"] ["_law_h", "_law_known"] (defScope s__law_signs) := ⟨rfl, rfl, rfl, by decide +kernel, rfl, by decide +kernel, by decide +kernel⟩
theorem ok_signs (D : DefAt K mg "_law_signs" s__law_signs ["_law_h", "_law_known"]) (T : Txt K mg) (D__law_next : DefOk P w K mg base CX0 1 "_law_next" spNext) : DefOk P w K mg base CX0 2 "_law_signs" spSigns := by
  refine D.ok sc__law_signs (fun vs H Q E h => ?_) (fun fa cdv A outer s0 H vs Q E hr hh => ?_)
  · obtain ⟨h, hc, z, rfl, _⟩ := h
    rfl
  · obtain ⟨h, hc, z, rfl, hs, ok, q⟩ := hh
    have z1 := ok.z1
    have z10 := ok.z10
    refine ⟨_, (pss_cons (ps_set (i := 2) sc__law_signs.nd rfl (by first | exact Or.inl rfl | exact Or.inr rfl) (pe_join pe_str (pe_lc (own := [("_law_sign_here", 3)]) rfl sc__law_signs.nd (pi_str (pv 1)) (blkOk_by (own := [("_law_sign_here", 3)]) (N := ["_law_h", "_law_known", "_law_found", "_law_sign_here"]) (sc := defScope s__law_signs) (by decide +kernel)) (fun _ _ _ _ _ => (pg_name (i := 3) sc__law_signs.nd rfl (by first | exact Or.inl rfl | exact Or.inr rfl))) (fun _ _ _ _ _ => pts_one (pt_cmpR op_eq (pe_c D__law_next (hr.mono (by decide)) pass0 (pa_cons (pv 0) (pa_cons pe_int pa_nil))) pe_int (nomark _))) (fun _ _ _ _ _ => (pv 3))))) (pss_one (ps_ret (pe_ifExp (pt_cmpR op_ne (pv 2) pe_str (nomark _)) (pv 2) (pe_ix ix_str (pv 1) (pe_c D__law_next (hr.mono (by decide)) pass0 (pa_cons (pv 0) (pa_cons (pe_callB call_len_str rfl T.b_len bt_len (pa_cons (pv 1) pa_nil)) pa_nil))) (fun _ _ => rfl)))))), ?_⟩
    walk_at "gx"
    refine ⟨⟨_, rfl⟩, ?_⟩
    walk_at "gx"
    refine lc_str (fun i D H' => ∃ l : List Nat, H D = none ∧ H' D = some (.lst ((l.map sg).map V.str)) ∧ MvH h hc H H' ∧ Hst H' h hc ∧ l.length ≤ i ∧ ∀ c ∈ l, c ∈ sgs)
      (fun D hD => ⟨[], hD, upd_same, MvH.updD (MvH.refl _) hD, hs.upd (hs.ne hD), Nat.le_refl _, fun c hc => nomatch hc⟩) ?_ ?_
    · rintro i D H0 c hc0 ⟨l, hD, gD, m0, h0, ll, ls⟩
      have il := (List.getElem?_eq_some_iff.mp hc0).1
      rw [Array.length_toList] at il
      have dn := hs.ne hD
      walk_at "gx"
      refine ⟨rfl, ?_⟩
      walk_at "gx"
      refine ⟨h, hc, 2, rfl, by decide, by decide, h0, fun r H1 r0 r1 m1 h1 => ?_⟩
      walk_at "gx"
      refine ited (fun _ => ?_) (fun _ => ?_)
      · walk_at "gx"
        refine ⟨_, m1 _ _ dn.1 dn.2 gD, smallL (by rw [List.length_map, List.length_map]; omega), l ++ [c], hD, by rw [upd_same]; simp, MvH.updD (m0.trans m1) hD, h1.upd dn, by rw [List.length_append]; simp; omega, fun c' hc' => ?_⟩
        rcases List.mem_append.mp hc' with e | e
        · exact ls c' e
        · rw [List.mem_singleton.mp e]
          exact ok.zs c (List.mem_of_getElem? hc0)
      · exact ⟨l, hD, m1 _ _ dn.1 dn.2 gD, m0.trans m1, h1, by omega, ls⟩
    · rintro D H1 ⟨l, hD, gD, m1, h1, ll, ls⟩
      refine ⟨_, _, l.map sg, rfl, rfl, .inl (SqL.of gD), ?_, ?_⟩
      · rw [sum_ones, List.length_map]
        show l.length + l.length * 0 ≤ _
        omega
      generalize hJ : Txt.join _ (l.map sg) = J
      have eJ : J.cps.toList = l := by rw [← hJ]; exact join0_ones l
      walk_at "gx"
      refine itend (fun hne => ?_) (fun he => ?_)
      · walk_at "gx"
        have l0 : l ≠ [] := fun e => hne (by rw [(esg_iff J).mpr (by rw [eJ, e])]; rfl)
        have sz : J.cps.size = l.length := by rw [← eJ, Array.length_toList]
        exact q J H1 ⟨by rw [sz]; exact List.length_pos_iff.mpr l0, by omega, by rw [eJ]; exact ls⟩ m1 h1
      · walk_at "gx"
        refine ⟨small (by rw [zlen]; omega), ?_⟩
        walk_at "gx"
        refine ⟨h, hc, _, rfl, by rw [zlen]; omega, by rw [zlen]; omega, h1, fun r H2 r0 r1 m2 h2 => ?_⟩
        rw [zlen] at r1
        have rl : r.toNat < z.cps.toList.length := by rw [Array.length_toList]; omega
        refine w_ixS (small (by rw [zlen]; omega)) (chr_at r0 (List.getElem?_eq_getElem rl)) (q _ H2 ⟨Nat.le_refl 1, (by decide : 1 ≤ 10), fun c hc => ?_⟩ (m1.trans m2) h2)
        have hc : c ∈ [z.cps.toList[r.toNat]] := hc
        rw [List.mem_singleton.mp hc]
        exact ok.zs _ (List.getElem_mem rl)
/-! #### turns -/
def spTurns (K : PySem.W.Frag) : Sp := fun vs H Q _ => ∃ (h hc : Addr), vs = [.ref h] ∧ Hst H h hc ∧ ∀ p H' (fs : List Int), 1 ≤ fs.length → fs.length ≤ 4 → (∀ t ∈ fs, 0 ≤ t ∧ t < 4) → MvH h hc H H' → Hst H' h hc → SqT K H' p (fs.map V.int) → Q (.ref p) H'
abbrev s__law_turns : Stmt := top 59
theorem sc__law_turns : FnScope ["_law_h", "_law_found", "_law_turn"] ["_law_h"] (defScope s__law_turns) := ⟨rfl, rfl, rfl, by decide +kernel, rfl, by decide +kernel, by decide +kernel⟩
theorem ok_turns (D : DefAt K mg "_law_turns" s__law_turns ["_law_h"]) (T : Txt K mg) (D__law_next : DefOk P w K mg base CX0 1 "_law_next" spNext) : DefOk P w K mg base CX0 2 "_law_turns" (spTurns K) := by
  refine D.ok sc__law_turns (fun vs H Q E h => ?_) (fun fa cdv A outer s0 H vs Q E hr hh => ?_)
  · obtain ⟨h, hc, rfl, _⟩ := h
    rfl
  · obtain ⟨h, hc, rfl, hs, q⟩ := hh
    refine ⟨_, (pss_cons (ps_set (i := 1) sc__law_turns.nd rfl (by first | exact Or.inl rfl | exact Or.inr rfl) (pe_callTy call_tuple_of rfl T.b_tuple bt_tuple (pa_cons (pe_lc (own := [("_law_turn", 2)]) rfl sc__law_turns.nd (pi_range1 rfl T.b_range (pa_cons pe_int pa_nil)) (blkOk_by (own := [("_law_turn", 2)]) (N := ["_law_h", "_law_found", "_law_turn"]) (sc := defScope s__law_turns) (by decide +kernel)) (fun _ _ _ _ _ => (pg_name (i := 2) sc__law_turns.nd rfl (by first | exact Or.inl rfl | exact Or.inr rfl))) (fun _ _ _ _ _ => pts_one (pt_cmpR op_eq (pe_c D__law_next (hr.mono (by decide)) pass0 (pa_cons (pv 0) (pa_cons pe_int pa_nil))) pe_int (nomark _))) (fun _ _ _ _ _ => (pv 2))) pa_nil))) (pss_one (ps_ret (pe_ifExp (pt_cmpR (show OpR _ (compareOp .NotEq) (rNeD K) from op_neD hr.units) (pv 1) (pe_tup pa_nil) (nomark _)) (pv 1) (pe_tup (pa_cons (pe_c D__law_next (hr.mono (by decide)) pass0 (pa_cons (pv 0) (pa_cons pe_int pa_nil))) pa_nil)))))), ?_⟩
    walk_at "gx"
    refine lc_rng (n := 4) rfl (by decide) (fun i D H' => ∃ l : List Int, H D = none ∧ H' D = some (.lst (l.map V.int)) ∧ MvH h hc H H' ∧ Hst H' h hc ∧ l.length ≤ i ∧ ∀ c ∈ l, 0 ≤ c ∧ c < 4)
      (fun D hD => ⟨[], hD, upd_same, MvH.updD (MvH.refl _) hD, hs.upd (hs.ne hD), Nat.le_refl _, fun c hc => nomatch hc⟩) ?_ ?_
    · rintro i D H0 i4 ⟨l, hD, gD, m0, h0, ll, ls⟩
      have dn := hs.ne hD
      walk_at "gx"
      refine ⟨rfl, ?_⟩
      walk_at "gx"
      refine ⟨h, hc, 3, rfl, by decide, by decide, h0, fun r H1 r0 r1 m1 h1 => ?_⟩
      walk_at "gx"
      refine ited (fun _ => ?_) (fun _ => ?_)
      · walk_at "gx"
        refine ⟨_, m1 _ _ dn.1 dn.2 gD, smallL (by rw [List.length_map]; omega), l ++ [(i : Int)], hD, by rw [upd_same]; simp, MvH.updD (m0.trans m1) hD, h1.upd dn, by rw [List.length_append]; simp; omega, fun c' hc' => ?_⟩
        rcases List.mem_append.mp hc' with e | e
        · exact ls c' e
        · rw [List.mem_singleton.mp e]
          omega
      · exact ⟨l, hD, m1 _ _ dn.1 dn.2 gD, m0.trans m1, h1, by omega, ls⟩
    · rintro D H1 ⟨l, hD, gD, m1, h1, ll, ls⟩
      walk_at "gx"
      refine ⟨D, _, rfl, .inl ⟨SqL.of gD, fun p1 n1 => ?_⟩⟩
      generalize hE1 : upd H1 p1 _ = H2; obtain ⟨k2, g2⟩ := updN n1 hE1
      have t2 : SqT K H2 p1 (l.map V.int) := SqT.of g2
      walk_at "gx"
      refine ⟨small (by simp), fun p2 n2 => ?_⟩
      generalize hE2 : upd H2 p2 _ = H3; obtain ⟨k3, g3⟩ := updN n2 hE2
      have t3 : SqT K H3 p1 (l.map V.int) := Same.seqT k3 t2
      have m3 : MvH h hc H H3 := (m1.trans (MvH.of k2)).trans (MvH.of k3)
      have h3 : Hst H3 h hc := (h1.same k2).same k3
      refine w_neNilT (.tup t3 (dp_map (g := PyData.int) fun x _ => .int x)) (SqT.of g3) (n := 1) (fun x hx => by obtain ⟨_, _, rfl⟩ := List.mem_map.mp hx; exact True.intro) (by decide) ?_
      walk_at "gx"
      refine iteb (fun e => ?_) (fun e => ?_)
      · walk_at "gx"
        have l0 : l ≠ [] := fun z => by rw [z] at e; cases e
        exact q p1 H3 l (List.length_pos_iff.mpr l0) ll ls m3 h3 t3
      · walk_at "gx"
        refine ⟨h, hc, 4, rfl, by decide, by decide, h3, fun r H4 r0 r1 m4 h4 => ?_⟩
        walk_at "gx"
        refine ⟨small (by simp), fun p5 n5 => ?_⟩
        generalize hE5 : upd H4 p5 _ = H5; obtain ⟨k5, g5⟩ := updN n5 hE5
        exact q p5 H5 [r] (Nat.le_refl 1) (by simp) (fun t ht => by rw [List.mem_singleton.mp ht]; exact ⟨r0, r1⟩) ((m3.trans m4).trans (MvH.of k5)) (h4.same k5) (SqT.of g5)
end
end
section
/-! ### one instruction of the drawing -/
theorem InAt.mv {K : PySem.W.Frag} {H H' : Hp} {h hc a : Addr} {d : InD} (s : MvH h hc H H') (k : Hst H h hc) (e : InAt K H a d) : InAt K H' a d := by
  cases d with
  | turn ts => obtain ⟨t, h1, h2⟩ := e; exact ⟨t, s.tup k h1, s.tup k h2⟩
  | _ => exact s.tup k e
theorem ab4 : SgOk ".ABT" := ⟨by decide, by decide, by decide⟩
theorem ab5 : SgOk ".ABT~" := ⟨by decide, by decide, by decide⟩
section
variable {P : Program} {w : World} {K : PySem.W.Frag} {mg : Str → Option Value} {base : Heap}
def spOne (K : PySem.W.Frag) : Sp := fun vs H Q _ => ∃ (h hc : Addr), vs = [.ref h] ∧ Hst H h hc ∧ ∀ p H' (d : InD), InOk d → MvH h hc H H' → Hst H' h hc → InAt K H' p d → Q (.ref p) H'
abbrev s__law_one : Stmt := top 60
theorem sc__law_one : FnScope ["_law_h", "_law_kind", "_law_least"] ["_law_h"] (defScope s__law_one) := ⟨rfl, rfl, rfl, by decide +kernel, rfl, by decide +kernel, by decide +kernel⟩
theorem ok_one (D : DefAt K mg "_law_one" s__law_one ["_law_h"]) (T : Txt K mg) (D__law_next : DefOk P w K mg base CX0 1 "_law_next" spNext) (D__law_signs : DefOk P w K mg base CX0 2 "_law_signs" spSigns) (D__law_turns : DefOk P w K mg base CX0 2 "_law_turns" (spTurns K)) : DefOk P w K mg base CX0 3 "_law_one" (spOne K) := by
  refine D.ok sc__law_one (fun vs H Q E h => ?_) (fun fa cdv A outer s0 H vs Q E hr hh => ?_)
  · obtain ⟨h, hc, rfl, _⟩ := h
    rfl
  · obtain ⟨h, hc, rfl, hs, q⟩ := hh
    refine ⟨_, (pss_cons (ps_par (i := 1) (j := 2) rfl sc__law_one.nd rfl rfl (by decide) rfl rfl (pa_cons (pe_c D__law_next (hr.mono (by decide)) pass0 (pa_cons (pv 0) (pa_cons pe_int pa_nil))) (pa_cons (pe_c D__law_next (hr.mono (by decide)) pass0 (pa_cons (pv 0) (pa_cons pe_int pa_nil))) pa_nil)) (by rfl)) (pss_cons (ps_if (pt_cmpR op_eq (pv 1) pe_int (nomark _)) (pss_one (ps_ret (pe_tup (pa_cons pe_str (pa_cons (pe_c D__law_turns (hr.mono (by decide)) pass0 (pa_cons (pv 0) pa_nil)) pa_nil))))) pss_nil) (pss_cons (ps_if (pt_cmpR op_lt (pv 1) pe_int (nomark _)) (pss_one (ps_ret (pe_tup (pa_cons pe_str (pa_cons (pv 2) (pa_cons (pe_op op_add (pv 2) (pe_c D__law_next (hr.mono (by decide)) pass0 (pa_cons (pv 0) (pa_cons pe_int pa_nil)))) pa_nil)))))) pss_nil) (pss_cons (ps_if (pt_cmpR op_lt (pv 1) pe_int (nomark _)) (pss_one (ps_ret (pe_tup (pa_cons (pe_ix (show IxR _ (rIxL K) from ix_list) (pe_lst (pa_cons pe_str (pa_cons pe_str pa_nil))) (pe_op op_sub (pv 1) pe_int) (fun _ _ => rfl)) (pa_cons (pe_c D__law_signs (hr.mono (by decide)) pass0 (pa_cons (pv 0) (pa_cons pe_str pa_nil))) pa_nil))))) pss_nil) (pss_cons (ps_if (pt_cmpR op_eq (pv 1) pe_int (nomark _)) (pss_one (ps_ret (pe_tup (pa_cons pe_str (pa_cons (pe_c D__law_next (hr.mono (by decide)) pass0 (pa_cons (pv 0) (pa_cons pe_int pa_nil))) (pa_cons (pe_c D__law_signs (hr.mono (by decide)) pass0 (pa_cons (pv 0) (pa_cons pe_str pa_nil))) pa_nil)))))) pss_nil) (pss_cons (ps_if (pt_cmpR op_eq (pv 1) pe_int (nomark _)) (pss_one (ps_ret (pe_tup (pa_cons pe_str (pa_cons (pe_c D__law_signs (hr.mono (by decide)) pass0 (pa_cons (pv 0) (pa_cons pe_str pa_nil))) (pa_cons (pe_c D__law_next (hr.mono (by decide)) pass0 (pa_cons (pv 0) (pa_cons pe_int pa_nil))) pa_nil)))))) pss_nil) (pss_one (ps_ret (pe_tup (pa_cons pe_str (pa_cons (pe_ix (show IxR _ (rIxL K) from ix_list) (pe_lst (pa_cons pe_int (pa_cons pe_int pa_nil))) (pe_c D__law_next (hr.mono (by decide)) pass0 (pa_cons (pv 0) (pa_cons pe_int pa_nil))) (fun _ _ => rfl)) (pa_cons (pv 2) (pa_cons (pe_op op_add (pv 2) (pe_c D__law_next (hr.mono (by decide)) pass0 (pa_cons (pv 0) (pa_cons pe_int pa_nil)))) pa_nil))))))))))))), ?_⟩
    walk_at "gx"
    refine ⟨h, hc, 8, rfl, by decide, by decide, hs, fun n H1 n0 n8 m1 h1 => ?_⟩
    walk_at "gx"
    refine ⟨h, hc, 3, rfl, by decide, by decide, h1, fun l H2 l0 l3 m2 h2 => ?_⟩
    have m2 : MvH h hc H H2 := m1.trans m2
    clear m1 h1
    walk_at "gx"
    refine ⟨_, _, rfl, ?_⟩
    walk_at "gx"
    refine ited (fun e0 => ?_) (fun e0 => ?_)
    · walk_at "gx"
      refine ⟨h, hc, rfl, h2, fun t H3 fs f1 f4 ft m3 h3 gt => ?_⟩
      walk_at "gx"
      refine ⟨small (by simp), fun p n => ?_⟩
      generalize hE : upd H3 p _ = H4; obtain ⟨k4, g4⟩ := updN n hE
      exact q p H4 (.turn fs) ⟨f1, f4, ft⟩ ((m2.trans m3).trans (MvH.of k4)) (h3.same k4) ⟨t, SqT.of g4, Same.seqT k4 gt⟩
    walk_at "gx"
    refine ited (fun e1 => ?_) (fun e1 => ?_)
    · walk_at "gx"
      refine ⟨h, hc, 3, rfl, by decide, by decide, h2, fun r H3 r0 r3 m3 h3 => ?_⟩
      walk_at "gx"
      refine ⟨small (by simp), fun p n => ?_⟩
      generalize hE : upd H3 p _ = H4; obtain ⟨k4, g4⟩ := updN n hE
      exact q p H4 (.walk l (l + r)) ⟨l0, by omega, by omega⟩ ((m2.trans m3).trans (MvH.of k4)) (h3.same k4) (SqT.of g4)
    walk_at "gx"
    refine ited (fun e2 => ?_) (fun e2 => ?_)
    · walk_at "gx"
      refine ⟨small (by simp), fun p np => ?_⟩
      generalize hE : upd H2 p _ = H3; obtain ⟨k3, g3⟩ := updN np hE
      have h3 := h2.same k3
      walk_at "gx"
      obtain ⟨t, ht⟩ : ∃ t : Bool, atI [V.str "until", V.str "toward"] (n - 3) = some (.str (if t then "until" else "toward")) := by
        have e : n = 3 ∨ n = 4 := by omega
        rcases e with e | e
        · rw [e]
          exact ⟨true, rfl⟩
        · rw [e]
          exact ⟨false, rfl⟩
      refine w_ixL (SqL.of g3) ht ?_
      walk_at "gx"
      refine ⟨h, hc, _, rfl, h3, ab4, fun z H4 oz m4 h4 => ?_⟩
      walk_at "gx"
      refine ⟨small (by simp), fun p n => ?_⟩
      generalize hE : upd H4 p _ = H5; obtain ⟨k5, g5⟩ := updN n hE
      exact q p H5 (.til t z) ⟨oz.z1, oz.z10, oz.zs⟩ (((m2.trans (MvH.of k3)).trans m4).trans (MvH.of k5)) (h4.same k5) (SqT.of g5)
    walk_at "gx"
    refine ited (fun e3 => ?_) (fun e3 => ?_)
    · walk_at "gx"
      refine ⟨h, hc, 4, rfl, by decide, by decide, h2, fun r H3 r0 r3 m3 h3 => ?_⟩
      walk_at "gx"
      refine ⟨h, hc, _, rfl, h3, ab5, fun z H4 oz m4 h4 => ?_⟩
      walk_at "gx"
      refine ⟨small (by simp), fun p n => ?_⟩
      generalize hE : upd H4 p _ = H5; obtain ⟨k5, g5⟩ := updN n hE
      exact q p H5 (.beside r z) ⟨r0, by omega, oz.z1, oz.z10, oz.zs⟩ (((m2.trans m3).trans m4).trans (MvH.of k5)) (h4.same k5) (SqT.of g5)
    walk_at "gx"
    refine ited (fun e4 => ?_) (fun e4 => ?_)
    · walk_at "gx"
      refine ⟨h, hc, _, rfl, h2, ab5, fun z H3 oz m3 h3 => ?_⟩
      walk_at "gx"
      refine ⟨h, hc, 4, rfl, by decide, by decide, h3, fun r H4 r0 r3 m4 h4 => ?_⟩
      walk_at "gx"
      refine ⟨small (by simp), fun p n => ?_⟩
      generalize hE : upd H4 p _ = H5; obtain ⟨k5, g5⟩ := updN n hE
      exact q p H5 (.near z r) ⟨r0, by omega, oz.z1, oz.z10, oz.zs⟩ (((m2.trans m3).trans m4).trans (MvH.of k5)) (h4.same k5) (SqT.of g5)
    walk_at "gx"
    refine ⟨small (by simp), fun p np => ?_⟩
    generalize hE : upd H2 p _ = H3; obtain ⟨k3, g3⟩ := updN np hE
    walk_at "gx"
    refine ⟨h, hc, 2, rfl, by decide, by decide, h2.same k3, fun r H4 r0 r3 m4 h4 => ?_⟩
    obtain ⟨s, hs1, hs2⟩ : ∃ s : Int, atI [V.int 1, V.int 3] r = some (.int s) ∧ (s = 1 ∨ s = 3) := by
      have e : r = 0 ∨ r = 1 := by omega
      rcases e with e | e
      · rw [e]
        exact ⟨1, rfl, .inl rfl⟩
      · rw [e]
        exact ⟨3, rfl, .inr rfl⟩
    have np2 : p ≠ h ∧ p ≠ hc := h2.ne np
    refine w_ixL (SqL.of (m4 _ _ np2.1 np2.2 g3)) hs1 ?_
    walk_at "gx"
    refine ⟨h, hc, 3, rfl, by decide, by decide, h4, fun r2 H5 r20 r23 m5 h5 => ?_⟩
    walk_at "gx"
    refine ⟨small (by simp), fun p n => ?_⟩
    generalize hE : upd H5 p _ = H6; obtain ⟨k6, g6⟩ := updN n hE
    exact q p H6 (.shore s l (l + r2)) ⟨hs2, l0, by omega, by omega⟩ ((((m2.trans (MvH.of k3)).trans m4).trans m5).trans (MvH.of k6)) (h5.same k6) (SqT.of g6)
end
end
section
/-! ### the rows of the drawing -/
theorem sum_ge (ys : List Str) : (Txt.join esg ys).length = (ys.map fun z : Str => z.length).sum := by
  have e : (Txt.join esg ys).length = (Txt.join esg ys).cps.toList.length := by rw [Array.length_toList]; rfl
  rw [e, join0_cps, List.length_flatten, List.map_map]
  congr 1
section
variable {P : Program} {w : World} {K : PySem.W.Frag} {mg : Str → Option Value} {base : Heap}
def Landed (rows : List Str) : Prop := ∃ z ∈ rows, ∃ c ∈ z.cps.toList, c ≠ 126
def spRows (K : PySem.W.Frag) : Sp := fun vs H Q _ => ∃ (h hc : Addr), vs = [.ref h, .int 4] ∧ Hst H h hc ∧ ∀ p H' (rows : List Str) (W : Nat), Isl rows W → Landed rows → MvH h hc H H' → Hst H' h hc → SqT K H' p (rows.map V.str) → Q (.ref p) H'
abbrev s__law_rows : Stmt := top 48
theorem sc__law_rows : FnScope ["_law_h", "_law_most", "_law_high", "_law_wide", "_law_found", "_law_row", "_law_column"] ["_law_h", "_law_most"] (defScope s__law_rows) := ⟨rfl, rfl, rfl, by decide +kernel, rfl, by decide +kernel, by decide +kernel⟩
theorem ok_rows (D : DefAt K mg "_law_rows" s__law_rows ["_law_h", "_law_most"]) (T : Txt K mg) (D__law_next : DefOk P w K mg base CX0 1 "_law_next" spNext) : DefOk P w K mg base CX0 2 "_law_rows" (spRows K) := by
  refine D.ok sc__law_rows (fun vs H Q E h => ?_) (fun fa cdv A outer s0 H vs Q E hr hh => ?_)
  · obtain ⟨h, hc, rfl, _⟩ := h
    rfl
  · obtain ⟨h, hc, rfl, hs, q⟩ := hh
    refine ⟨_, (pss_cons (ps_par (i := 2) (j := 3) rfl sc__law_rows.nd rfl rfl (by decide) rfl rfl (pa_cons (pe_op op_add pe_int (pe_c D__law_next (hr.mono (by decide)) pass0 (pa_cons (pv 0) (pa_cons (pv 1) pa_nil)))) (pa_cons (pe_op op_add pe_int (pe_c D__law_next (hr.mono (by decide)) pass0 (pa_cons (pv 0) (pa_cons (pv 1) pa_nil)))) pa_nil)) (by rfl)) (pss_cons (ps_set (i := 4) sc__law_rows.nd rfl (by first | exact Or.inl rfl | exact Or.inr rfl) (pe_lst pa_nil)) (pss_cons (ps_for PassesOwn.never rfl (pi_range1 rfl T.b_range (pa_cons (pv 2) pa_nil)) (pg_name (i := 5) sc__law_rows.nd rfl (by first | exact Or.inl rfl | exact Or.inr rfl)) (pss_one (ps_expr (pe_bm PySem.F.plainAttrs_list PySem.F.slot_list_append PySem.F.type_list_append mt_append (pv 4) (pa_cons (pe_join pe_str (pe_lc (own := [("_law_column", 6)]) rfl sc__law_rows.nd (pi_range1 rfl T.b_range (pa_cons (pv 3) pa_nil)) (blkOk_by (own := [("_law_column", 6)]) (N := ["_law_h", "_law_most", "_law_high", "_law_wide", "_law_found", "_law_row", "_law_column"]) (sc := defScope s__law_rows) (by decide +kernel)) (fun _ _ _ _ _ => (pg_name (i := 6) sc__law_rows.nd rfl (by first | exact Or.inl rfl | exact Or.inr rfl))) (fun _ _ _ _ _ => pts_nil) (fun _ _ _ _ _ => (pe_ix (show IxR _ (rIxL K) from ix_list) (pe_lst (pa_cons pe_str (pa_cons pe_str (pa_cons pe_str (pa_cons pe_str (pa_cons pe_str (pa_cons pe_str (pa_cons pe_str (pa_cons pe_str pa_nil))))))))) (pe_c D__law_next (hr.mono (by decide)) pass0 (pa_cons (pv 0) (pa_cons pe_int pa_nil))) (fun _ _ => rfl))))) pa_nil))))) (pss_one (ps_ret (pe_ifExp (pt_cmpR op_ne (pe_srep (pv 4)) pe_str (nomark _)) (pe_callTy call_tuple_of rfl T.b_tuple bt_tuple (pa_cons (pv 4) pa_nil)) (pe_op (show OpR _ (binaryOp .Add) (rCatA K) from op_catA) (pe_tup (pa_cons (pe_op op_mul_si pe_str (pv 3)) pa_nil)) (pe_callTy call_tuple_of rfl T.b_tuple bt_tuple (pa_cons (pe_slice (show SlR _ (rSlL K) from sl_list) (pv 4) (po_some pe_int) po_none) pa_nil))))))))), ?_⟩
    walk_at "gx"
    refine ⟨h, hc, 4, rfl, by decide, by decide, hs, fun a H1 a0 a4 m1 h1 => ?_⟩
    walk_at "gx"
    refine ⟨h, hc, 4, rfl, by decide, by decide, h1, fun b H2 b0 b4 m2 h2 => ?_⟩
    have m2 : MvH h hc H H2 := m1.trans m2
    clear m1 h1
    walk_at "gx"
    obtain ⟨M, rfl⟩ : ∃ M : Nat, a = M := ⟨a.toNat, by omega⟩
    obtain ⟨W, rfl⟩ : ∃ W : Nat, b = W := ⟨b.toNat, by omega⟩
    refine ⟨_, _, rfl, ?_⟩
    walk_at "gx"
    refine ⟨small (by simp), fun p np => ?_⟩
    generalize hE : upd H2 p _ = H3; obtain ⟨k3, g3⟩ := updN np hE
    walk_at "gx"
    refine lp_rng1 (n := 1 + M) (by omega) (by omega) (fun j σ H' => ∃ (rows : List Str) (v : Option V), σ = [some (.ref h), some (.int 4), some (.int (1 + M)), some (.int (1 + W)), some (.ref p), v, none] ∧ MvH h hc H2 H' ∧ Hst H' h hc ∧ H' p = some (.lst (rows.map V.str)) ∧ rows.length = j ∧ ∀ z ∈ rows, z.cps.size = 1 + W ∧ ∀ c ∈ z.cps.toList, c ∈ sgs)
      ⟨[], none, rfl, MvH.of k3, h2.same k3, g3, rfl, fun z hz => nomatch hz⟩ ?_ ?_
    · rintro j σ H4 jl ⟨rows, v, rfl, m4, h4, g4, lr, hr4⟩
      walk_at "gx"
      refine ⟨.inl ⟨rfl, _, SqL.of g4⟩, ?_⟩
      walk_at "gx"
      refine ⟨⟨_, rfl⟩, ?_⟩
      walk_at "gx"
      have h4p : ∀ D, H4 D = none → D ≠ p := fun D n e => by rw [e, g4] at n; cases n
      refine lc_rng (n := 1 + W) (by omega) (by omega) (fun i D H' => ∃ l : List Nat, H4 D = none ∧ H' D = some (.lst ((l.map sg).map V.str)) ∧ MvH h hc H4 H' ∧ Hst H' h hc ∧ l.length = i ∧ ∀ c ∈ l, c ∈ sgs)
        (fun D hD => ⟨[], hD, upd_same, MvH.updD (MvH.refl _) hD, h4.upd (h4.ne hD), rfl, fun c hc => nomatch hc⟩) ?_ ?_
      · rintro i D H5 iW ⟨l, hD, gD, m5, h5, ll, ls⟩
        have dn := h4.ne hD
        walk_at "gx"
        refine ⟨rfl, ?_⟩
        walk_at "gx"
        refine ⟨small (by simp), fun p6 n6 => ?_⟩
        generalize hE6 : upd H5 p6 _ = H6; obtain ⟨k6, g6⟩ := updN n6 hE6
        walk_at "gx"
        refine ⟨h, hc, 8, rfl, by decide, by decide, h5.same k6, fun r H7 r0 r1 m7 h7 => ?_⟩
        have np6 := h5.ne n6
        obtain ⟨c, hc1, hc2⟩ : ∃ c ∈ sgs, atI [V.str (sg 46), V.str (sg 46), V.str (sg 46), V.str (sg 126), V.str (sg 46), V.str (sg 65), V.str (sg 66), V.str (sg 84)] r = some (.str (sg c)) := by
          have e : r = 0 ∨ r = 1 ∨ r = 2 ∨ r = 3 ∨ r = 4 ∨ r = 5 ∨ r = 6 ∨ r = 7 := by omega
          rcases e with e | e | e | e | e | e | e | e <;> rw [e]
          · exact ⟨46, by decide, rfl⟩
          · exact ⟨46, by decide, rfl⟩
          · exact ⟨46, by decide, rfl⟩
          · exact ⟨126, by decide, rfl⟩
          · exact ⟨46, by decide, rfl⟩
          · exact ⟨65, by decide, rfl⟩
          · exact ⟨66, by decide, rfl⟩
          · exact ⟨84, by decide, rfl⟩
        refine w_ixL (SqL.of (m7 _ _ np6.1 np6.2 g6)) hc2 ?_
        have gD7 := m7 _ _ dn.1 dn.2 (k6 _ _ gD)
        refine ⟨_, gD7, smallL (by rw [List.length_map, List.length_map]; omega), l ++ [c], hD, by rw [upd_same]; simp, MvH.updD ((m5.trans (MvH.of k6)).trans m7) hD, h7.upd dn, by rw [List.length_append, ll]; rfl, fun c' hc' => ?_⟩
        rcases List.mem_append.mp hc' with e | e
        · exact ls c' e
        · rw [List.mem_singleton.mp e]
          exact hc1
      · rintro D H5 ⟨l, hD, gD, m5, h5, ll, ls⟩
        refine ⟨_, _, l.map sg, rfl, rfl, .inl (SqL.of gD), ?_, ?_⟩
        · rw [sum_ones, List.length_map]
          show l.length + l.length * 0 ≤ _
          omega
        generalize hJ : Txt.join _ (l.map sg) = J
        have eJ : J.cps.toList = l := by rw [← hJ]; exact join0_ones l
        have sz : J.cps.size = l.length := by rw [← eJ, Array.length_toList]
        have pn := h2.ne np
        have g5 := m5 _ _ pn.1 pn.2 g4
        walk_at "gx"
        refine w_app g5 (smallL (by rw [List.length_map]; omega)) ?_
        walk_at "gx"
        refine ⟨rows ++ [J], _, rfl, MvH.updD (m4.trans m5) np, h5.upd pn, by rw [upd_same]; simp, by rw [List.length_append, lr]; rfl, fun z hz => ?_⟩
        rcases List.mem_append.mp hz with e | e
        · exact hr4 z e
        · rw [List.mem_singleton.mp e]
          exact ⟨by omega, by rw [eJ]; exact ls⟩
    · rintro σ H4 ⟨rows, v, rfl, m4, h4, g4, lr, hr4⟩
      have iso : ∀ rs : List Str, rs.length = 1 + M → (∀ z ∈ rs, z.cps.size = 1 + W ∧ ∀ c ∈ z.cps.toList, c ∈ sgs) → Isl rs (1 + W) := fun rs e1 e2 => ⟨by omega, by omega, by omega, by omega, fun z hz => (e2 z hz).1, fun z hz => (e2 z hz).2⟩
      have sm : (rows.map fun z : Str => z.length).sum ≤ 16 := by
        have e := sum_le (ys := rows) (n := 4) fun y hy => by rw [zlen, (hr4 y hy).1]; omega
        omega
      walk_at "gx"
      refine ⟨_, rfl, _, rows, rfl, .inl (SqL.of g4), ?_, _, rfl, ?_, ?_⟩
      · show (rows.map fun z : Str => z.length).sum + rows.length * 0 ≤ _
        omega
      · have e := sum_ge rows
        show (Txt.join esg rows).length + ((Txt.join esg rows).length + 1) * 0 ≤ _
        omega
      generalize hJ : Txt.replace _ _ _ = J
      have eJ : J.cps.toList = (rows.map fun y => y.cps.toList).flatten.filter (· != 126) := by
        rw [← hJ, ← join0_cps]
        exact PyProof.Rows.replace_strikes _ 126
      walk_at "gx"
      refine itend (fun hne => ?_) (fun he => ?_)
      · walk_at "gx"
        refine ⟨p, _, rfl, .inl ⟨SqL.of g4, fun p5 n5 => ?_⟩⟩
        generalize hE5 : upd H4 p5 _ = H5; obtain ⟨k5, g5⟩ := updN n5 hE5
        refine q p5 H5 rows (1 + W) (iso rows lr hr4) ?_ ((m2.trans m4).trans (MvH.of k5)) (h4.same k5) (SqT.of g5)
        have jn : J.cps.toList ≠ [] := fun e => hne (by rw [(esg_iff J).mpr e]; rfl)
        rw [eJ] at jn
        obtain ⟨c, hc⟩ := List.exists_mem_of_ne_nil _ jn
        obtain ⟨c1, c2⟩ := List.mem_filter.mp hc
        obtain ⟨t, t1, t2⟩ := List.mem_flatten.mp c1
        obtain ⟨z, z1, z2⟩ := List.mem_map.mp t1
        exact ⟨z, z1, c, by rw [z2]; exact t2, fun e => by rw [e] at c2; cases c2⟩
      · walk_at "gx"
        refine ⟨46, 1 + W, rfl, rfl, by omega, by omega, ?_⟩
        generalize hZ : (⟨(List.replicate _ 46).toArray⟩ : Str) = Z
        have eZ : Z.cps.toList = List.replicate (1 + W) 46 := by
          rw [← hZ]
          have e : ((1 : Int) + (W : Int)).toNat = 1 + W := by omega
          rw [e]
        walk_at "gx"
        refine ⟨small (by simp), fun p5 n5 => ?_⟩
        generalize hE5 : upd H4 p5 _ = H5; obtain ⟨k5, g5⟩ := updN n5 hE5
        walk_at "gx"
        refine w_slL (SqL.of (k5 _ _ g4)) fun p6 H6 n6 k6 g6 => ?_
        have ec : cutV (rows.map V.str) (some 1) none = (rows.drop 1).map V.str := by
          unfold cutV
          rw [HT.sIx_none]
          have e1 : HT.sIx (rows.map V.str).length 0 (some 1) = 1 := by
            show min 1 (rows.map V.str).length = 1
            rw [List.length_map]
            omega
          rw [e1, List.map_drop]
          exact List.take_of_length_le (Nat.le_of_eq List.length_drop)
        rw [ec] at g6
        walk_at "gx"
        refine ⟨p6, _, rfl, .inl ⟨SqL.of g6, fun p7 n7 => ?_⟩⟩
        generalize hE7 : upd H6 p7 _ = H7; obtain ⟨k7, g7⟩ := updN n7 hE7
        refine w_catA (Same.seqT k7 (Same.seqT k6 (SqT.of g5))) (SqT.of g7) (small (by simp; omega)) fun p8 H8 k8 g8 => ?_
        have zz : (1 + W) = Z.cps.size := by rw [← Array.length_toList, eZ, List.length_replicate]
        refine q p8 H8 (Z :: rows.drop 1) (1 + W) (iso _ (by rw [List.length_cons, List.length_drop]; omega) fun z hz => ?_) ⟨Z, List.mem_cons_self, 46, by rw [eZ]; exact List.mem_replicate.mpr ⟨by omega, rfl⟩, by decide⟩ ((((m2.trans m4).trans (MvH.of k5)).trans (MvH.of k6)).trans ((MvH.of k7).trans (MvH.of k8))) ((((h4.same k5).same k6).same k7).same k8) g8
        rcases List.mem_cons.mp hz with e | e
        · rw [e]
          exact ⟨zz.symm, fun c hc => by rw [eZ] at hc; rw [(List.mem_replicate.mp hc).2]; decide⟩
        · exact hr4 z (List.mem_of_mem_drop e)
end
end
section
/-! ### a chart is drawn -/
theorem Cel.mv {K : PySem.W.Frag} {H H' : Hp} {h hc : Addr} {L : LK} (s : MvH h hc H H') (k : Hst H h hc) (e : Cel K H L) : Cel K H' L := fun p hp => s.tup k (e p hp)
theorem DrAt.mv {K : PySem.W.Frag} {H H' : Hp} {h hc d : Addr} {rows : List Str} {z : Str} {fs : List Int} {ds : IL} (s : MvH h hc H H') (k : Hst H h hc) (e : DrAt K H d rows z fs ds) : DrAt K H' d rows z fs ds := by
  obtain ⟨ra, fa, ia, h1, h2, h3, h4⟩ := e.ex
  exact ⟨⟨ra, fa, ia, s.tup k h1, s.tup k h2, s.tup k h3, s.tup k h4⟩, fun p hp => InAt.mv s k (e.ins p hp)⟩
section
variable {P : Program} {w : World} {K : PySem.W.Frag} {mg : Str → Option Value} {base : Heap}
theorem w_ext {σ : St} {H : Hp} {Q : VK} {i : Nat} {d p : Addr} {rows : List Str} {Z : Str} {fs : List Int} {ds : IL} {di : InD} (e7 : σ[7]? = some (some (.ref d))) (ei : σ[i]? = some (some (.ref p))) (dr : DrAt K H d rows Z fs ds) (ip : InAt K H p di) (hl : ds.length ≤ 10)
    (hq : ∀ d' H', Same H H' → DrAt K H' d' rows Z fs (ds ++ [(p, di)]) → Q (.ref d') H') :
    tOp (rCatA K) (tSl (rSlA K) (tVar 7) tNoPart (tPart (tC (.int 3)))) (tTup (tCons (tOp (rCatA K) (tOp (rIxT K) (tVar 7) (tC (.int 3))) (tTup (tCons (tVar i) tNil))) tNil)) σ H Q := by
  obtain ⟨ra, fa, ia, h1, h2, h3, h4⟩ := dr.ex
  refine w_op (w_sl (w_var e7 (w_noPart (w_part (w_c ⟨3, rfl, w_slA h1 fun p1 H1 k1 g1 => ?_⟩)))))
  have g1 : SqT K H1 p1 [.ref ra, .str Z, .ref fa] := g1
  refine w_tup (w_cons (w_op (w_op (w_var e7 (w_c (w_ixT (Same.seqT k1 h1) (by rfl) ?_))))))
  refine w_tup (w_cons (w_var ei (w_nil ⟨small (by simp), fun p2 n2 => ?_⟩)))
  generalize hE2 : upd H1 p2 _ = H2; obtain ⟨k2, g2⟩ := updN n2 hE2
  refine w_catA (Same.seqT k2 (Same.seqT k1 h4)) (SqT.of g2) (small (by simp; omega)) fun p3 H3 k3 g3 => ?_
  refine w_nil ⟨small (by simp), fun p4 n4 => ?_⟩
  generalize hE4 : upd H3 p4 _ = H4; obtain ⟨k4, g4⟩ := updN n4 hE4
  refine w_catA (Same.seqT k4 (Same.seqT k3 (Same.seqT k2 g1))) (SqT.of g4) (small (by simp)) fun p5 H5 k5 g5 => ?_
  have ks : Same H H5 := fun b u e => k5 _ _ (k4 _ _ (k3 _ _ (k2 _ _ (k1 _ _ e))))
  refine hq p5 H5 ks ⟨⟨ra, fa, p3, g5, Same.seqT ks h2, Same.seqT ks h3, ?_⟩, fun q hq => ?_⟩
  · have g3' := Same.seqT k5 (Same.seqT k4 g3)
    rw [List.map_append]
    exact g3'
  · rcases List.mem_append.mp hq with e | e
    · exact InAt.same ks (dr.ins q e)
    · rw [List.mem_singleton.mp e]
      exact InAt.same ks ip
def spDrawn (K : PySem.W.Frag) : Sp := fun vs H Q _ => ∃ (h hc : Addr), vs = [.ref h, .int 4, .int 4] ∧ Hst H h hc ∧
  ∀ d H' (rows : List Str) (W : Nat) (z : Str) (fs : List Int) (ds : IL), DrAt K H' d rows z fs ds → DrOk rows W z fs ds → MvH h hc H H' → Hst H' h hc → Q (.ref d) H'
abbrev s__law_drawn : Stmt := top 61
theorem sc__law_drawn : FnScope ["_law_h", "_law_size", "_law_most", "_law_rows_here", "_law_cells_here", "_law_some", "_law_signs_here", "_law_found", "_law_k", "_law_one_here", "_law_other", "_law_longer"] ["_law_h", "_law_size", "_law_most"] (defScope s__law_drawn) := ⟨rfl, rfl, rfl, by decide +kernel, rfl, by decide +kernel, by decide +kernel⟩
theorem ok_drawn (D : DefAt K mg "_law_drawn" s__law_drawn ["_law_h", "_law_size", "_law_most"]) (T : Txt K mg) (D__law_next : DefOk P w K mg base CX0 1 "_law_next" spNext) (D__law_rows : DefOk P w K mg base CX0 2 "_law_rows" (spRows K)) (D__law_cells : DefOk P w K mg base CX0 1 "_law_cells" (spCells K))
    (D__law_sign : DefOk P w K mg base CX0 1 "_law_sign" (spSign K)) (D__law_turns : DefOk P w K mg base CX0 2 "_law_turns" (spTurns K)) (D__law_one : DefOk P w K mg base CX0 3 "_law_one" (spOne K)) (D__law_final : DefOk P w K mg base CX0 5 "_law_final" (spBegin K)) :
    DefOk P w K mg base CX0 6 "_law_drawn" (spDrawn K) := by
  refine D.ok sc__law_drawn (fun vs H Q E h => ?_) (fun fa cdv A outer s0 H vs Q E hr hh => ?_)
  · obtain ⟨h, hc, rfl, _⟩ := h
    rfl
  · obtain ⟨h, hc, rfl, hs, q⟩ := hh
    refine ⟨_, (pss_cons (ps_set (i := 3) sc__law_drawn.nd rfl (by first | exact Or.inl rfl | exact Or.inr rfl) (pe_c D__law_rows (hr.mono (by decide)) pass0 (pa_cons (pv 0) (pa_cons (pv 1) pa_nil)))) (pss_cons (ps_set (i := 4) sc__law_drawn.nd rfl (by first | exact Or.inl rfl | exact Or.inr rfl) (pe_c D__law_cells (hr.mono (by decide)) pass0 (pa_cons (pv 3) pa_nil))) (pss_cons (ps_set (i := 5) sc__law_drawn.nd rfl (by first | exact Or.inl rfl | exact Or.inr rfl) (pe_c D__law_sign (hr.mono (by decide)) pass0 (pa_cons (pv 3) (pa_cons (pe_ix (show IxR _ (rIxL K) from ix_list) (pv 4) (pe_c D__law_next (hr.mono (by decide)) pass0 (pa_cons (pv 0) (pa_cons (pe_callB (show CallR _ _ (rLen K) from call_lenK) rfl T.b_len bt_len (pa_cons (pv 4) pa_nil)) pa_nil))) (fun _ _ => rfl)) pa_nil)))) (pss_cons (ps_set (i := 6) sc__law_drawn.nd rfl (by first | exact Or.inl rfl | exact Or.inr rfl) (pe_join pe_str (pe_callB (S7.cr_sortedS rfl hr.units) rfl T.b_sorted bt_sorted (pa_cons (pe_callTy (S7.cr_setS rfl) rfl T.b_set bt_set (pa_cons (pe_op op_add_str (pv 5) (pe_ix (show IxR _ (rIxL K) from ix_list) (pe_lst (pa_cons pe_str (pa_cons pe_str (pa_cons pe_str (pa_cons pe_str pa_nil))))) (pe_c D__law_next (hr.mono (by decide)) pass0 (pa_cons (pv 0) (pa_cons pe_int pa_nil))) (fun _ _ => rfl))) pa_nil)) pa_nil)))) (pss_cons (ps_set (i := 7) sc__law_drawn.nd rfl (by first | exact Or.inl rfl | exact Or.inr rfl) (pe_tup (pa_cons (pv 3) (pa_cons (pv 6) (pa_cons (pe_c D__law_turns (hr.mono (by decide)) pass0 (pa_cons (pv 0) pa_nil)) (pa_cons (pe_tup pa_nil) pa_nil)))))) (pss_cons (ps_for PassesOwn.never rfl (pi_range1 rfl T.b_range (pa_cons (pe_c D__law_next (hr.mono (by decide)) pass0 (pa_cons (pv 0) (pa_cons (pe_op op_add (pv 2) pe_int) pa_nil))) pa_nil)) (pg_name (i := 8) sc__law_drawn.nd rfl (by first | exact Or.inl rfl | exact Or.inr rfl)) (pss_cons (ps_par (i := 9) (j := 10) rfl sc__law_drawn.nd rfl rfl (by decide) rfl rfl (pa_cons (pe_c D__law_one (hr.mono (by decide)) pass0 (pa_cons (pv 0) pa_nil)) (pa_cons (pe_c D__law_one (hr.mono (by decide)) pass0 (pa_cons (pv 0) pa_nil)) pa_nil)) (by rfl)) (pss_cons (ps_set (i := 11) sc__law_drawn.nd rfl (by first | exact Or.inl rfl | exact Or.inr rfl) (pe_op (show OpR _ (binaryOp .Add) (rCatA K) from op_catA) (pe_slice (show SlR _ (rSlA K) from sl_tupA) (pv 7) po_none (po_some pe_int)) (pe_tup (pa_cons (pe_op (show OpR _ (binaryOp .Add) (rCatA K) from op_catA) (pe_ix (show IxR _ (rIxT K) from ix_tup) (pv 7) pe_int (fun _ _ => rfl)) (pe_tup (pa_cons (pv 9) pa_nil))) pa_nil)))) (pss_one (ps_set (i := 7) sc__law_drawn.nd rfl (by first | exact Or.inl rfl | exact Or.inr rfl) (pe_ifExp (PW.pt (pw_or (pt_cmpR (show OpR _ (compareOp .NotEq) (rNeD K) from op_neD hr.units) (pe_c D__law_final (hr.mono (by decide)) pass0 (pa_cons (pv 11) pa_nil)) (pe_lst pa_nil) (nomark _)) (pw_or1 (pt_cmpR op_eq (pe_c D__law_next (hr.mono (by decide)) pass0 (pa_cons (pv 0) (pa_cons pe_int pa_nil))) pe_int (nomark _))))) (pv 11) (pe_op (show OpR _ (binaryOp .Add) (rCatA K) from op_catA) (pe_slice (show SlR _ (rSlA K) from sl_tupA) (pv 7) po_none (po_some pe_int)) (pe_tup (pa_cons (pe_op (show OpR _ (binaryOp .Add) (rCatA K) from op_catA) (pe_ix (show IxR _ (rIxT K) from ix_tup) (pv 7) pe_int (fun _ _ => rfl)) (pe_tup (pa_cons (pv 10) pa_nil))) pa_nil))))))))) (pss_one (ps_ret (pv 7))))))))), ?_⟩
    walk_at "gx"
    refine ⟨h, hc, rfl, hs, fun ra H1 rows W I land m1 h1 gr => ?_⟩
    have I4 := I.r4
    walk_at "gx"
    refine ⟨ra, rows, W, rfl, gr, I, fun ca H2 A n2 k2 g2 cA iA lA aA => ?_⟩
    have np := h1.ne n2
    have h2 := h1.same k2
    have m2 := m1.trans (MvH.of k2)
    have gr2 := Same.seqT k2 gr
    clear m1
    walk_at "gx"
    have Al : 1 ≤ A.length := by
      obtain ⟨z, z1, c, c1, c2⟩ := land
      obtain ⟨i, hi⟩ := List.getElem?_of_mem z1
      obtain ⟨j, hj⟩ := List.getElem?_of_mem c1
      have e : signAt rows i j = c := by
        unfold signAt
        rw [if_pos ⟨by omega, by omega⟩, Int.toNat_natCast, hi, Int.toNat_natCast]
        show z.cps.toList[j]?.getD 126 = c
        rw [hj]
        rfl
      have m := aA i j (by rw [e]; exact c2)
      obtain ⟨q, q1, _⟩ := List.mem_map.mp m
      exact List.length_pos_iff.mpr fun z => by rw [z] at q1; cases q1
    have lr : (refs A).length = A.length := refs_len A
    refine ⟨h, hc, _, rfl, by omega, by omega, h2, fun r H3 r0 r1 m3 h3 => ?_⟩
    have g3 := m3 _ _ np.1 np.2 g2
    obtain ⟨v, v1, v2⟩ := atI_of r0 r1
    refine w_ixL (SqL.of g3) v1 ?_
    obtain ⟨q1, hq1, rfl⟩ := refs_get v2
    have mq := List.mem_of_getElem? hq1
    obtain ⟨x, y, exy, _⟩ := iA q1 mq
    have c3 := m3.tup h2 (cA q1 mq)
    have gr3 := m3.tup h2 gr2
    rw [exy] at c3
    have m3 := m2.trans m3
    walk_at "gx"
    refine ⟨ra, q1.1, rows, W, x, y, [], rfl, gr3, I, c3, ?_⟩
    have sgI := signAt_sgs I x y
    generalize signAt rows x y = c at sgI
    walk_at "gx"
    refine ⟨⟨_, rfl⟩, ?_⟩
    walk_at "gx"
    refine ⟨small (by simp), fun p4 n4 => ?_⟩
    generalize hE4 : upd H3 p4 _ = H4; obtain ⟨k4, g4⟩ := updN n4 hE4
    have np4 := h3.ne n4
    walk_at "gx"
    refine ⟨h, hc, 4, rfl, by decide, by decide, h3.same k4, fun r H5 r0 r4 m5 h5 => ?_⟩
    have gr5 := m5.tup (h3.same k4) (Same.seqT k4 gr3)
    have g5 := m5 _ _ np4.1 np4.2 g4
    have m5 := (m3.trans (MvH.of k4)).trans m5
    obtain ⟨l, l1, l2, l3⟩ : ∃ l : Str, atI [V.str ".", V.str "A", V.str "", V.str ""] r = some (.str l) ∧ l.cps.size ≤ 1 ∧ ∀ c ∈ l.cps.toList, c ∈ sgs := by
      have e : r = 0 ∨ r = 1 ∨ r = 2 ∨ r = 3 := by omega
      rcases e with e | e | e | e <;> rw [e]
      · exact ⟨_, rfl, by decide, by decide⟩
      · exact ⟨_, rfl, by decide, by decide⟩
      · exact ⟨_, rfl, by decide, by decide⟩
      · exact ⟨_, rfl, by decide, by decide⟩
    refine w_ixL (SqL.of g5) l1 ?_
    refine ⟨sg c, l, rfl, rfl, small (by rw [zlen, zlen]; show 1 + _ ≤ _; omega), ?_⟩
    have ex : (sg c ++ l).cps.toList = c :: l.cps.toList := by rw [Str.cps_append, Array.toList_append]; rfl
    generalize sg c ++ l = X at ex
    have xs : X.cps.size = 1 + l.cps.size := by rw [← Array.length_toList, ex, List.length_cons, Array.length_toList]; omega
    walk_at "gx"
    refine ⟨X, rfl, by omega, fun p6 n6 => ?_⟩
    generalize hE6 : upd H5 p6 _ = H6; obtain ⟨k6, g6⟩ := updN n6 hE6
    refine ⟨p6, X.cps.toList, rfl, g6, by rw [Array.length_toList]; omega, fun p7 n7 => ?_⟩
    generalize hE7 : upd H6 p7 _ = H7; obtain ⟨k7, g7⟩ := updN n7 hE7
    have gr7 := Same.seqT k7 (Same.seqT k6 gr5)
    have h7 := (h5.same k6).same k7
    have m7 := (m5.trans (MvH.of k6)).trans (MvH.of k7)
    have ul : (S7.uniq X.cps.toList).length ≤ 2 := by
      have z := S7.met_len X.cps.toList []
      unfold S7.uniq
      rw [List.length_mergeSort]
      have e : X.cps.toList.length = 1 + l.cps.size := by rw [Array.length_toList, xs]
      simp at z
      omega
    have u1 : 1 ≤ (S7.uniq X.cps.toList).length := List.length_pos_iff.mpr fun e => by
      have m := (S7.uniq_mem X.cps.toList c).mpr (by rw [ex]; exact List.mem_cons_self)
      rw [e] at m
      cases m
    have us : ∀ c ∈ S7.uniq X.cps.toList, c ∈ sgs := fun c' hc' => by
      have m := (S7.uniq_mem X.cps.toList c').mp hc'
      rw [ex] at m
      rcases List.mem_cons.mp m with e | e
      · rw [e]
        exact sgI
      · exact l3 c' e
    generalize S7.uniq X.cps.toList = u at g7 ul u1 us
    have g7 : H7 p7 = some (.lst ((u.map sg).map V.str)) := by rw [g7, List.map_map]; rfl
    refine ⟨_, _, u.map sg, rfl, rfl, .inl (SqL.of g7), ?_, ?_⟩
    · rw [sum_ones, List.length_map]
      show u.length + u.length * 0 ≤ _
      omega
    generalize hJ : Txt.join _ (u.map sg) = Z
    have eZ : Z.cps.toList = u := by rw [← hJ]; exact join0_ones u
    have sZ : Z.cps.size = u.length := by rw [← eZ, Array.length_toList]
    walk_at "gx"
    refine ⟨h, hc, rfl, h7, fun fa H8 fs f1 f4 fo m8 h8 g8 => ?_⟩
    have gr8 := m8.tup h7 gr7
    have m8 := m7.trans m8
    walk_at "gx"
    refine ⟨small (by simp), fun p9 n9 => ?_⟩
    generalize hE9 : upd H8 p9 _ = H9; obtain ⟨k9, g9⟩ := updN n9 hE9
    walk_at "gx"
    refine ⟨small (by simp), fun p10 n10 => ?_⟩
    generalize hE10 : upd H9 p10 _ = H10; obtain ⟨k10, g10⟩ := updN n10 hE10
    have h10 := (h8.same k9).same k10
    have m10 := (m8.trans (MvH.of k9)).trans (MvH.of k10)
    have dr0 : DrAt K H10 p10 rows Z fs [] := ⟨⟨ra, fa, p9, SqT.of g10, Same.seqT k10 (Same.seqT k9 gr8), Same.seqT k10 (Same.seqT k9 g8), SqT.of (k10 _ _ g9)⟩, fun p hp => nomatch hp⟩
    have ok0 : ∀ ds : IL, ds.length ≤ 10 → (∀ p ∈ ds, InOk p.2) → DrOk rows W Z fs ds := fun ds d1 d2 => ⟨I, by omega, by omega, by rw [eZ]; exact us, f1, f4, fo, d1, d2⟩
    walk_at "gx"
    refine ⟨h, hc, 5, rfl, by decide, by decide, h10, fun n H11 n0 n5 m11 h11 => ?_⟩
    have dr11 := DrAt.mv m11 h10 dr0
    have m11 := m10.trans m11
    walk_at "gx"
    obtain ⟨N, rfl⟩ : ∃ N : Nat, n = N := ⟨n.toNat, by omega⟩
    refine lp_rng1 (n := N) rfl (by omega) (fun j σ H' => ∃ (d : Addr) (ds : IL) (v1 v2 v3 v4 : Option V), σ = [some (.ref h), some (.int 4), some (.int 4), some (.ref ra), some (.ref ca), some (.str (sg c)), some (.str Z), some (.ref d), v1, v2, v3, v4] ∧ MvH h hc H H' ∧ Hst H' h hc ∧ DrAt K H' d rows Z fs ds ∧ ds.length = j ∧ ∀ p ∈ ds, InOk p.2)
      ⟨p10, [], none, none, none, none, rfl, m11, h11, dr11, rfl, fun p hp => nomatch hp⟩ ?_ ?_
    · rintro j σ H12 jl ⟨d, ds, v1, v2, v3, v4, rfl, m12, h12, dr12, dl, dok⟩
      have ok12 := ok0 ds (by omega) dok
      walk_at "gx"
      refine ⟨h, hc, rfl, h12, fun o1 H13 d1 od1 m13 h13 i13 => ?_⟩
      walk_at "gx"
      refine ⟨h, hc, rfl, h13, fun o2 H14 d2 od2 m14 h14 i2 => ?_⟩
      have i1 := InAt.mv m14 h13 i13
      have dr14 := DrAt.mv m14 h13 (DrAt.mv m13 h12 dr12)
      have m14 := (m12.trans m13).trans m14
      clear i13 m13 h13
      walk_at "gx"
      refine ⟨_, _, rfl, ?_⟩
      iterate 2 (first | (with_reducible refine w_asg ?_) | (with_reducible refine w_next ?_) | (with_reducible refine w_seq ?_))
      refine w_ext (by rfl) (by rfl) dr14 i1 (by omega) fun e1 H15 k15 dr15 => ?_
      walk_at "gx"
      have okd : ∀ dd : InD × Addr, InOk dd.1 → ∀ p ∈ ds ++ [(dd.2, dd.1)], InOk p.2 := fun dd o p hp => by
        rcases List.mem_append.mp hp with e | e
        · exact dok p e
        · rw [List.mem_singleton.mp e]
          exact o
      have ll : ∀ x : Addr × InD, (ds ++ [x]).length = j + 1 := fun x => by rw [List.length_append, dl]; rfl
      refine ⟨e1, rows, W, Z, fs, ds ++ [(o1, d1)], rfl, dr15, ok0 _ (by rw [ll]; omega) (okd (d1, o1) od1), fun fp H16 L n16 k16 g16 c16 u16 l16 => ?_⟩
      walk_at "gx"
      refine ⟨small (by simp), fun ep n17 => ?_⟩
      generalize hE17 : upd H16 ep _ = H17; obtain ⟨k17, g17⟩ := updN n17 hE17
      refine w_neNil (dp_cells (SqL.of (k17 _ _ g16)) (Cel.same k17 c16)) g17 (shp_cells L) (by decide) ?_
      have s17 : Same H14 H17 := fun b u e => k17 _ _ (k16 _ _ (k15 _ _ e))
      have h17 := h14.same s17
      have m17 := m14.trans (MvH.of s17)
      have dr17 : DrAt K H17 e1 rows Z fs (ds ++ [(o1, d1)]) := DrAt.same (fun b u e => k17 _ _ (k16 _ _ e)) dr15
      walk_at "gx"
      refine iteb (fun _ => ?_) (fun _ => ?_)
      · walk_at "gx"
        exact ⟨e1, ds ++ [(o1, d1)], _, _, _, _, rfl, m17, h17, dr17, ll _, okd (d1, o1) od1⟩
      · walk_at "gx"
        refine ⟨h, hc, 9, rfl, by decide, by decide, h17, fun n H18 _ _ m18 h18 => ?_⟩
        have dr18 := DrAt.mv m18 h17 dr17
        have m18' := m17.trans m18
        walk_at "gx"
        refine ited (fun _ => ?_) (fun _ => ?_)
        · walk_at "gx"
          exact ⟨e1, ds ++ [(o1, d1)], _, _, _, _, rfl, m18', h18, dr18, ll _, okd (d1, o1) od1⟩
        · refine w_ext (by rfl) (by rfl) (DrAt.mv m18 h17 (DrAt.same s17 dr14)) (InAt.mv m18 h17 (InAt.same s17 i2)) (by omega) fun e2 H19 k19 dr19 => ?_
          walk_at "gx"
          exact ⟨e2, ds ++ [(o2, d2)], _, _, _, _, rfl, m18'.trans (MvH.of k19), h18.same k19, dr19, ll _, okd (d2, o2) od2⟩
    · rintro σ H12 ⟨d, ds, v1, v2, v3, v4, rfl, m12, h12, dr12, dl, dok⟩
      walk_at "gx"
      exact q d H12 rows W Z fs ds dr12 (ok0 ds (by omega) dok) m12 h12
end
end
section
/-! ### a chart is written down as ints -/
theorem tyT {K : PySem.W.Frag} {H : Hp} {p : Addr} {xs : List V} (h : SqT K H p xs) : TyX K H (.ref p) (.type "tuple") := by
  rcases h with (e | ⟨o, e⟩) | ⟨o, its, n, e, c, _⟩
  · exact .base (.tup e)
  · exact .fTuple e
  · exact .kTuple e c
section
variable {K : PySem.W.Frag} {H : Hp} {Q : VK}
theorem isiT_int {p : Addr} {xs : List V} (h : SqT K H p xs) (q : Q (.bl false) H) : rIsi K [.ref p, .ty "int"] H Q := ⟨_, _, _, _, _, rfl, .ty _, tyT h, kit_ty (show kitB _ _ = some false by decide +kernel), q⟩
theorem isiT_tup {p : Addr} {xs : List V} (h : SqT K H p xs) (q : Q (.bl true) H) : rIsi K [.ref p, .ty "tuple"] H Q := ⟨_, _, _, _, _, rfl, .ty _, tyT h, kit_ty (show kitB _ _ = some true by decide +kernel), q⟩
theorem isiS_tup {x : Str} (q : Q (.bl false) H) : rIsi K [.str x, .ty "tuple"] H Q := ⟨_, _, _, _, _, rfl, .ty _, .base (.str x), kit_ty (show kitB _ _ = some false by decide +kernel), q⟩
end
def rLenX (K : PySem.W.Frag) : List V → Hp → VK → Prop := fun xs H Q => rLen K xs H Q ∨ ∃ z, xs = [.str z] ∧ z.length ≤ sizeLine ∧ Q (.int z.length) H
abbrev abc : Str := ".~ABCDEFGHIJKLMNOPQRSTUVWXYZ"
theorem abc_at {c : Nat} (h : c ∈ sgs) : ∃ i rest, Builtin.Str.occurrences abc (sg c) 0 abc.length 1 = i :: rest ∧ i < 28 := by
  simp only [sgs, List.mem_cons, List.not_mem_nil, or_false] at h
  rcases h with e | e | e | e | e <;> subst e
  · exact ⟨0, [], by decide +kernel, by decide⟩
  · exact ⟨1, [], by decide +kernel, by decide⟩
  · exact ⟨2, [], by decide +kernel, by decide⟩
  · exact ⟨3, [], by decide +kernel, by decide⟩
  · exact ⟨21, [], by decide +kernel, by decide⟩
/-- small ints -/
def Low (ns : List Int) : Prop := ∀ n ∈ ns, 0 ≤ n ∧ n < 100
theorem Low.app {a b : List Int} (h1 : Low a) (h2 : Low b) : Low (a ++ b) := fun n hn => (List.mem_append.mp hn).elim (h1 n) (h2 n)
theorem Low.one {n : Int} (h0 : 0 ≤ n) (h1 : n < 100) : Low [n] := fun m hm => by rw [List.mem_singleton.mp hm]; exact ⟨h0, h1⟩
section
variable {P : Program} {w : World} {K : PySem.W.Frag} {mg : Str → Option Value} {base : Heap}
def spSC : Sp := fun vs H Q _ => ∃ (z : Str), vs = [.str z] ∧ z.cps.size ≤ 1000 ∧ (∀ c ∈ z.cps.toList, c ∈ sgs) ∧ ∀ p H' (ns : List Int), H p = none → Same H H' → H' p = some (.lst (ns.map V.int)) → ns.length = z.cps.size → Low ns → Q (.ref p) H'
abbrev s__law_signs_code : Stmt := top 65
theorem sc__law_signs_code : FnScope ["_law_signs_here", "_law_sign_here"] ["_law_signs_here"] (defScope s__law_signs_code) := ⟨rfl, rfl, rfl, by decide +kernel, rfl, by decide +kernel, by decide +kernel⟩
theorem ok_signs_code (D : DefAt K mg "_law_signs_code" s__law_signs_code ["_law_signs_here"]) (T : Txt K mg) : DefOk P w K mg base CX0 1 "_law_signs_code" spSC := by
  refine D.ok sc__law_signs_code (fun vs H Q E h => ?_) (fun fa cdv A outer s0 H vs Q E hr hh => ?_)
  · obtain ⟨z, rfl, _⟩ := h
    rfl
  · obtain ⟨z, rfl, zz, zs, q⟩ := hh
    refine ⟨_, (pss_one (ps_ret (pe_lc (own := [("_law_sign_here", 1)]) rfl sc__law_signs_code.nd (pi_str (pv 0)) (blkOk_by (own := [("_law_sign_here", 1)]) (N := ["_law_signs_here", "_law_sign_here"]) (sc := defScope s__law_signs_code) (by decide +kernel)) (fun _ _ _ _ _ => (pg_name (i := 1) sc__law_signs_code.nd rfl (by first | exact Or.inl rfl | exact Or.inr rfl))) (fun _ _ _ _ _ => pts_nil) (fun _ _ _ _ _ => (pe_m1 PySem.F.slot_str_index PySem.F.type_str_index mt_sindex pe_str (pv 1)))))), ?_⟩
    walk_at "gx"
    refine lc_str (fun i D H' => ∃ l : List Int, H D = none ∧ H' D = some (.lst (l.map V.int)) ∧ Same H H' ∧ l.length = i ∧ Low l)
      (fun D hD => ⟨[], hD, upd_same, Same.updD (Same.refl _) hD, rfl, fun c hc => nomatch hc⟩) ?_ ?_
    · rintro i D H0 c hc0 ⟨l, hD, gD, k0, ll, lo⟩
      have il := (List.getElem?_eq_some_iff.mp hc0).1
      rw [Array.length_toList] at il
      obtain ⟨j, rest, hj, j28⟩ := abc_at (zs c (List.mem_of_getElem? hc0))
      walk_at "gx"
      refine ⟨rfl, ?_⟩
      walk_at "gx"
      refine ⟨⟨_, rfl⟩, ?_⟩
      walk_at "gx"
      refine ⟨abc, sg c, j, rest, rfl, rfl, hj, ?_⟩
      exact ⟨_, gD, smallL (by rw [List.length_map]; omega), l ++ [(j : Int)], hD, by rw [upd_same]; simp, Same.updD k0 hD, by rw [List.length_append, ll]; rfl, lo.app (Low.one (by omega) (by omega))⟩
    · rintro D H1 ⟨l, hD, gD, k1, ll, lo⟩
      exact q D H1 l hD k1 gD ll lo
def spHeads : Sp := fun vs H Q _ => vs = [] ∧ ∀ p H', H p = none → Same H H' → H' p = some (.lst [.str "turn", .str "walk", .str "until", .str "toward", .str "beside", .str "near", .str "shore"]) → Q (.ref p) H'
abbrev s__law_heads : Stmt := top 63
theorem sc__law_heads : FnScope [] [] (defScope s__law_heads) := ⟨rfl, rfl, rfl, by decide +kernel, rfl, by decide +kernel, by decide +kernel⟩
theorem ok_heads (D : DefAt K mg "_law_heads" s__law_heads []) (T : Txt K mg) : DefOk P w K mg base CX0 1 "_law_heads" spHeads := by
  refine D.ok sc__law_heads (fun vs H Q E h => ?_) (fun fa cdv A outer s0 H vs Q E hr hh => ?_)
  · obtain ⟨rfl, _⟩ := h
    rfl
  · obtain ⟨rfl, q⟩ := hh
    refine ⟨_, (pss_one (ps_ret (pe_lst (pa_cons pe_str (pa_cons pe_str (pa_cons pe_str (pa_cons pe_str (pa_cons pe_str (pa_cons pe_str (pa_cons pe_str pa_nil)))))))))), ?_⟩
    walk_at "gx"
    refine ⟨small (by simp), fun p1 n1 => ?_⟩
    generalize hE1 : upd H p1 _ = H1; obtain ⟨k1, g1⟩ := updN n1 hE1
    exact q p1 H1 n1 k1 g1
/-- a part of an instruction -/
def PtAt (K : PySem.W.Frag) (H : Hp) (v : V) : Prop := (∃ n : Int, v = .int n ∧ 0 ≤ n ∧ n < 100) ∨ (∃ z : Str, v = .str z ∧ z.cps.size ≤ 10 ∧ ∀ c ∈ z.cps.toList, c ∈ sgs) ∨ ∃ t ts, v = .ref t ∧ SqT K H t (ts.map V.int) ∧ ts.length ≤ 4 ∧ Low ts
theorem PtAt.same {H H' : Hp} {v : V} (s : Same H H') (h : PtAt K H v) : PtAt K H' v := h.imp id (Or.imp id fun ⟨t, ts, e, q, r⟩ => ⟨t, ts, e, Same.seqT s q, r⟩)
theorem InAt.parts {H : Hp} {a : Addr} {d : InD} (h : InAt K H a d) (o : InOk d) : ∃ ps, SqT K H a (.str (InW d) :: ps) ∧ ps.length ≤ 3 ∧ ∀ v ∈ ps, PtAt K H v := by
  have two : ∀ {p : V → Prop} {x y : V}, p x → p y → ∀ v ∈ [x, y], p v := fun hx hy v hv => by
    rcases List.mem_cons.mp hv with e | e
    · rw [e]; exact hx
    · rw [List.mem_singleton.mp e]; exact hy
  cases d with
  | turn ts =>
    obtain ⟨t, h1, h2⟩ := h
    exact ⟨_, h1, by simp, fun v hv => by rw [List.mem_singleton.mp hv]; exact .inr (.inr ⟨t, ts, rfl, h2, o.2.1, fun n hn => ⟨(o.2.2 n hn).1, by have := (o.2.2 n hn).2; omega⟩⟩)⟩
  | walk l m => exact ⟨_, h, by simp, two (.inl ⟨l, rfl, o.1, by have := o.2; omega⟩) (.inl ⟨m, rfl, by have := o.2; have := o.1; omega, by have := o.2; omega⟩)⟩
  | til t z => exact ⟨_, h, by simp, fun v hv => by rw [List.mem_singleton.mp hv]; exact .inr (.inl ⟨z, rfl, o.2.1, o.2.2⟩)⟩
  | beside n z => exact ⟨_, h, by simp, two (.inl ⟨n, rfl, o.1, by have := o.2.1; omega⟩) (.inr (.inl ⟨z, rfl, o.2.2.2.1, o.2.2.2.2⟩))⟩
  | near z n => exact ⟨_, h, by simp, two (.inr (.inl ⟨z, rfl, o.2.2.2.1, o.2.2.2.2⟩)) (.inl ⟨n, rfl, o.1, by have := o.2.1; omega⟩)⟩
  | shore s l m =>
    obtain ⟨o1, o2, o3, o4⟩ := o
    refine ⟨_, h, by simp, fun v hv => ?_⟩
    rcases List.mem_cons.mp hv with e | e
    · rw [e]; exact .inl ⟨s, rfl, by omega, by omega⟩
    · exact two (p := PtAt K H) (.inl ⟨l, rfl, o2, by omega⟩) (.inl ⟨m, rfl, by omega, by omega⟩) v e
abbrev hd7 : List V := [.str "turn", .str "walk", .str "until", .str "toward", .str "beside", .str "near", .str "shore"]
theorem head_ix {H : Hp} {p : Addr} {Q : VK} (d : InD) (h : SqL K H p hd7) (q : ∀ j : Nat, j < 7 → Q (.int j) H) : rIndex K (.ref p) [.str (InW d)] H Q := by
  have fin : ∀ (y : V) (j : Nat), j < 7 → hd7[j]? = some y → flatV y = true → eqV y y = true → (∀ (m : Nat) (z' : V), m < j → hd7[m]? = some z' → eqV z' y = false) → rIndex K (.ref p) [y] H Q := fun y j hj hy fy e hm => ⟨p, hd7, y, j, y, rfl, rfl, h, fy, rfl, hy, e, hm, q j hj⟩
  cases d with
  | turn ts => exact fin _ 0 (by decide) rfl rfl rfl fun m z hm hz => by omega
  | walk l m => exact fin _ 1 (by decide) rfl rfl rfl fun m z hm hz => by rcases (show m = 0 by omega) with rfl; cases hz; rfl
  | til t w =>
    cases t with
    | true => exact fin _ 2 (by decide) rfl rfl rfl fun m z hm hz => (by rcases (show m = 0 ∨ m = 1 by omega) with rfl | rfl <;> cases hz <;> rfl)
    | false => exact fin _ 3 (by decide) rfl rfl rfl fun m z hm hz => (by rcases (show m = 0 ∨ m = 1 ∨ m = 2 by omega) with rfl | rfl | rfl <;> cases hz <;> rfl)
  | beside n w => exact fin _ 4 (by decide) rfl rfl rfl fun m z hm hz => (by rcases (show m = 0 ∨ m = 1 ∨ m = 2 ∨ m = 3 by omega) with rfl | rfl | rfl | rfl <;> cases hz <;> rfl)
  | near w n => exact fin _ 5 (by decide) rfl rfl rfl fun m z hm hz => (by rcases (show m = 0 ∨ m = 1 ∨ m = 2 ∨ m = 3 ∨ m = 4 by omega) with rfl | rfl | rfl | rfl | rfl <;> cases hz <;> rfl)
  | shore s l u => exact fin _ 6 (by decide) rfl rfl rfl fun m z hm hz => (by rcases (show m = 0 ∨ m = 1 ∨ m = 2 ∨ m = 3 ∨ m = 4 ∨ m = 5 by omega) with rfl | rfl | rfl | rfl | rfl | rfl <;> cases hz <;> rfl)
theorem flat_size {rows : List Str} {W : Nat} (h : ∀ z ∈ rows, z.cps.size = W) : (Txt.join esg rows).cps.size = rows.length * W := by
  rw [← Array.length_toList, join0_cps, List.length_flatten, List.map_map]
  induction rows with
  | nil => simp
  | cons z r ih =>
    rw [List.map_cons, List.sum_cons, ih fun y hy => h y (List.mem_cons_of_mem _ hy), List.length_cons, Nat.succ_mul]
    have e : (List.length ∘ fun y : Str => y.cps.toList) z = W := h z List.mem_cons_self
    rw [e, Nat.add_comm]
/-- the list of ints that is built -/
structure Nl (H H' : Hp) (p : Addr) (ns : List Int) (B : Nat) : Prop where
  np : H p = none
  sm : Same H H'
  g : H' p = some (.lst (ns.map V.int))
  lo : Low ns
  ln : ns.length ≤ B
  pos : 1 ≤ ns.length
theorem Nl.up {H H' H'' : Hp} {p : Addr} {ns : List Int} {B : Nat} (n : Nl H H' p ns B) (k : Same H' H'') : Nl H H'' p ns B := ⟨n.np, fun b u e => k _ _ (n.sm _ _ e), k _ _ n.g, n.lo, n.ln, n.pos⟩
theorem Nl.le {H H' : Hp} {p : Addr} {ns : List Int} {B C : Nat} (n : Nl H H' p ns B) (h : B ≤ C) : Nl H H' p ns C := ⟨n.np, n.sm, n.g, n.lo, Nat.le_trans n.ln h, n.pos⟩
theorem Nl.cat {H H' : Hp} {p q : Addr} {ns ms : List Int} {B C : Nat} {Q : VK} (n : Nl H H' p ns B) (hq : H' q = some (.lst (ms.map V.int))) (lo : Low ms) (hm : ms.length ≤ C) (hB : B + C ≤ 1000) (k : ∀ p' H'', Same H' H'' → Nl H H'' p' (ns ++ ms) (B + C) → Q (.ref p') H'') : rCat (.ref p) (.ref q) H' Q := by
  have l := n.ln
  have o := n.pos
  refine w_cat n.g hq (small (by rw [List.length_map, List.length_map]; omega)) fun p5 H5 n5 k5 g5 => ?_
  exact k p5 H5 k5 ⟨none_back n.sm n5, fun b u e => k5 _ _ (n.sm _ _ e), by rw [g5, List.map_append], n.lo.app lo, by rw [List.length_append]; omega, by rw [List.length_append]; omega⟩
theorem Nl.snoc {H H' : Hp} {p : Addr} {ns : List Int} {B : Nat} {x : Int} (n : Nl H H' p ns B) (x0 : 0 ≤ x) (x1 : x < 100) : Nl H (upd H' p (.lst (ns.map V.int ++ [V.int x]))) p (ns ++ [x]) (B + 1) := by
  have l := n.ln
  exact ⟨n.np, Same.updD n.sm n.np, by rw [upd_same, List.map_append]; rfl, n.lo.app (Low.one x0 x1), by rw [List.length_append]; simp; omega, by rw [List.length_append]; simp⟩
theorem cut1 (x : V) (xs : List V) : cutV (x :: xs) (some 1) none = xs := by
  unfold cutV
  rw [HT.sIx_none]
  have e1 : HT.sIx (x :: xs).length 0 (some 1) = 1 := by
    show min 1 (x :: xs).length = 1
    rw [List.length_cons]
    omega
  rw [e1]
  exact List.take_of_length_le (Nat.le_of_eq List.length_drop)
def spCode (K : PySem.W.Frag) : Sp := fun vs H Q _ => ∃ (d : Addr) (rows : List Str) (W : Nat) (z : Str) (fs : List Int) (ds : IL), vs = [.ref d] ∧ DrAt K H d rows z fs ds ∧ DrOk rows W z fs ds ∧
  ∀ p H' (ns : List Int), H p = none → Same H H' → H' p = some (.lst (ns.map V.int)) → 1 ≤ ns.length → ns.length ≤ 400 → Low ns → Q (.ref p) H'
abbrev s__law_code : Stmt := top 67
theorem sc__law_code : FnScope ["_law_drawn_here", "_law_found", "_law_instruction", "_law_part"] ["_law_drawn_here"] (defScope s__law_code) := ⟨rfl, rfl, rfl, by decide +kernel, rfl, by decide +kernel, by decide +kernel⟩
theorem ok_code (D : DefAt K mg "_law_code" s__law_code ["_law_drawn_here"]) (T : Txt K mg) (D__law_signs_code : DefOk P w K mg base CX0 1 "_law_signs_code" spSC) (D__law_heads : DefOk P w K mg base CX0 1 "_law_heads" spHeads) : DefOk P w K mg base CX0 2 "_law_code" (spCode K) := by
  refine D.ok sc__law_code (fun vs H Q E h => ?_) (fun fa cdv A outer s0 H vs Q E hr hh => ?_)
  · obtain ⟨d, rows, W, z, fs, ds, rfl, _⟩ := h
    rfl
  · obtain ⟨d, rows, W, z, fs, ds, rfl, hd, ok, q⟩ := hh
    obtain ⟨ra, fa, ia, h1, h2, h3, h4⟩ := hd.ex
    have I := ok.isl
    have I4 := I.r4
    have Iw := I.w4
    have f4 := ok.f4
    refine ⟨_, (pss_cons (ps_set (i := 1) sc__law_code.nd rfl (by first | exact Or.inl rfl | exact Or.inr rfl) (pe_op op_cat (pe_lst (pa_cons pe_int (pa_cons (pe_callB (show CallR _ _ (rLen K) from call_lenK) rfl T.b_len bt_len (pa_cons (pe_ix (show IxR _ (rIxT K) from ix_tup) (pv 0) pe_int (fun _ _ => rfl)) pa_nil)) (pa_cons (pe_callB call_len_str rfl T.b_len bt_len (pa_cons (pe_ix (show IxR _ (rIxT K) from ix_tup) (pe_ix (show IxR _ (rIxT K) from ix_tup) (pv 0) pe_int (fun _ _ => rfl)) pe_int (fun _ _ => rfl)) pa_nil)) pa_nil)))) (pe_c D__law_signs_code (hr.mono (by decide)) pass0 (pa_cons (pe_join pe_str (pe_ix (show IxR _ (rIxT K) from ix_tup) (pv 0) pe_int (fun _ _ => rfl))) pa_nil)))) (pss_cons (ps_set (i := 1) sc__law_code.nd rfl (by first | exact Or.inl rfl | exact Or.inr rfl) (pe_op op_cat (pe_op op_cat (pv 1) (pe_lst (pa_cons (pe_callB call_len_str rfl T.b_len bt_len (pa_cons (pe_ix (show IxR _ (rIxT K) from ix_tup) (pv 0) pe_int (fun _ _ => rfl)) pa_nil)) pa_nil))) (pe_c D__law_signs_code (hr.mono (by decide)) pass0 (pa_cons (pe_ix (show IxR _ (rIxT K) from ix_tup) (pv 0) pe_int (fun _ _ => rfl)) pa_nil)))) (pss_cons (ps_set (i := 1) sc__law_code.nd rfl (by first | exact Or.inl rfl | exact Or.inr rfl) (pe_op op_cat (pe_op op_cat (pe_op op_cat (pv 1) (pe_lst (pa_cons (pe_callB (show CallR _ _ (rLen K) from call_lenK) rfl T.b_len bt_len (pa_cons (pe_ix (show IxR _ (rIxT K) from ix_tup) (pv 0) pe_int (fun _ _ => rfl)) pa_nil)) pa_nil))) (pe_callTy call_list_of rfl T.b_list bt_list (pa_cons (pe_ix (show IxR _ (rIxT K) from ix_tup) (pv 0) pe_int (fun _ _ => rfl)) pa_nil))) (pe_lst (pa_cons (pe_callB (show CallR _ _ (rLen K) from call_lenK) rfl T.b_len bt_len (pa_cons (pe_ix (show IxR _ (rIxT K) from ix_tup) (pv 0) pe_int (fun _ _ => rfl)) pa_nil)) pa_nil)))) (pss_cons (ps_for PassesOwn.never rfl (show PI _ _ _ (iTup K _) from pi_tup (pe_ix (show IxR _ (rIxT K) from ix_tup) (pv 0) pe_int (fun _ _ => rfl))) (pg_name (i := 2) sc__law_code.nd rfl (by first | exact Or.inl rfl | exact Or.inr rfl)) (pss_cons (ps_expr (pe_bm PySem.F.plainAttrs_list PySem.F.slot_list_append PySem.F.type_list_append mt_append (pv 1) (pa_cons (pe_bm PySem.F.plainAttrs_list PySem.F.slot_list_index PySem.F.type_list_index mt_index (pe_c0 D__law_heads (hr.mono (by decide)) pass0) (pa_cons (pe_ix (show IxR _ (rIxT K) from ix_tup) (pv 2) pe_int (fun _ _ => rfl)) pa_nil)) pa_nil))) (pss_one (ps_for PassesOwn.never rfl (show PI _ _ _ (iTup K _) from pi_tup (pe_slice (show SlR _ (rSlA K) from sl_tupA) (pv 2) (po_some pe_int) po_none)) (pg_name (i := 3) sc__law_code.nd rfl (by first | exact Or.inl rfl | exact Or.inr rfl)) (pss_one (ps_if (pt_val (pe_callB (show CallR _ _ (rIsi K) from call_isi) rfl T.b_isinstance bt_isinstance (pa_cons (pv 3) (pa_cons (pe_bltn (v := .ty "int") (u := .type "int") rfl T.b_int bt_int rfl) pa_nil)))) (pss_one (ps_expr (pe_bm PySem.F.plainAttrs_list PySem.F.slot_list_append PySem.F.type_list_append mt_append (pv 1) (pa_cons (pv 3) pa_nil)))) (pss_cons (ps_expr (pe_bm PySem.F.plainAttrs_list PySem.F.slot_list_append PySem.F.type_list_append mt_append (pv 1) (pa_cons (pe_callB (show CallR _ _ (rLenX K) from CallR.or call_lenK call_len_str) rfl T.b_len bt_len (pa_cons (pv 3) pa_nil)) pa_nil))) (pss_one (ps_set (i := 1) sc__law_code.nd rfl (by first | exact Or.inl rfl | exact Or.inr rfl) (pe_op op_cat (pv 1) (pe_ifExp (pt_val (pe_callB (show CallR _ _ (rIsi K) from call_isi) rfl T.b_isinstance bt_isinstance (pa_cons (pv 3) (pa_cons (pe_bltn (v := .ty "tuple") (u := .type "tuple") rfl T.b_tuple bt_tuple rfl) pa_nil)))) (pe_callTy call_list_of rfl T.b_list bt_list (pa_cons (pv 3) pa_nil)) (pe_c D__law_signs_code (hr.mono (by decide)) pass0 (pa_cons (pv 3) pa_nil))))))))))))) (pss_one (ps_ret (pv 1))))))), ?_⟩
    obtain ⟨z0, rs, erow⟩ : ∃ z0 rs, rows = z0 :: rs := by
      cases e : rows with
      | nil => have i1 := I.r1; rw [e] at i1; exact absurd i1 (by decide)
      | cons a l => exact ⟨a, l, rfl⟩
    have w0 : z0.cps.size = W := I.wide z0 (by rw [erow]; exact List.mem_cons_self)
    have f2 : SqT K H ra (V.str z0 :: rs.map V.str) := by
      rw [erow] at h2
      exact h2
    have lrow : ((V.str z0 :: rs.map V.str).length : Int) = rows.length := by rw [erow]; simp
    have g0 := h1
    walk_at "gx"
    refine ⟨small (by rw [zlen]; omega), ?_⟩
    walk_at "gx"
    refine ⟨small (by simp), fun p1 n1 => ?_⟩
    generalize hE1 : upd H p1 _ = H1; obtain ⟨k1, g1⟩ := updN n1 hE1
    have h11 := Same.seqT k1 h1
    walk_at "gx"
    refine ⟨⟨_, rfl⟩, ?_⟩
    walk_at "gx"
    have smr : (rows.map fun y : Str => y.length).sum ≤ 16 := by
      have e := sum_le (ys := rows) (n := 4) fun y hy => by rw [zlen, I.wide y hy]; exact Iw
      omega
    refine ⟨_, ra, rows, rfl, rfl, .inr (Same.seqT k1 h2), ?_, ?_⟩
    · show (rows.map fun y : Str => y.length).sum + rows.length * 0 ≤ _
      omega
    have jz : (Txt.join esg rows).cps.size ≤ 16 := by rw [← zlen, sum_ge]; exact smr
    have js : ∀ c ∈ (Txt.join esg rows).cps.toList, c ∈ sgs := fun c hc => by
      rw [join0_cps] at hc
      obtain ⟨t, t1, t2⟩ := List.mem_flatten.mp hc
      obtain ⟨z, z1, z2⟩ := List.mem_map.mp t1
      exact I.of z z1 c (by rw [z2]; exact t2)
    refine ⟨Txt.join esg rows, rfl, by omega, js, fun p2 H2 A n2 k2 g2 lA oA => ?_⟩
    have w00 : z0.length = W := w0
    rw [lrow, w00] at g1
    have g1 : H1 p1 = some (.lst ([79, (rows.length : Int), (W : Int)].map V.int)) := g1
    have lo1 : Low [79, (rows.length : Int), (W : Int)] := (Low.one (n := 79) (by decide) (by decide)).app ((Low.one (by omega) (by omega)).app (Low.one (by omega) (by omega)))
    refine w_cat (k2 _ _ g1) g2 (small (by simp; omega)) fun p3 H3 n3 k3 g3 => ?_
    have np3 : H p3 = none := none_back (fun b u e => k2 _ _ (k1 _ _ e)) n3
    have s3 : Same H H3 := fun b u e => k3 _ _ (k2 _ _ (k1 _ _ e))
    have g3 : H3 p3 = some (.lst (([79, (rows.length : Int), (W : Int)] ++ A).map V.int)) := by rw [g3, List.map_append]
    have lo3 := lo1.app oA
    have l13 : 1 ≤ ([79, (rows.length : Int), (W : Int)] ++ A).length := by simp
    have ll3 : ([79, (rows.length : Int), (W : Int)] ++ A).length ≤ 19 := by simp; omega
    generalize [79, (rows.length : Int), (W : Int)] ++ A = N3 at g3 lo3 ll3 l13
    have nl3 : Nl H H3 p3 N3 19 := ⟨np3, s3, g3, lo3, ll3, l13⟩
    clear g1 g2 lo1 oA lA k1 k2 k3 n1 n2 np3 g3 lo3 ll3 h11
    have h13 := Same.seqT s3 h1
    have z10 := ok.z10
    have z1 := ok.z1
    walk_at "gx"
    refine ⟨small (by rw [zlen]; omega), ?_⟩
    walk_at "gx"
    refine ⟨small (by simp), fun p4 n4 => ?_⟩
    generalize hE4 : upd H3 p4 _ = H4; obtain ⟨k4, g4⟩ := updN n4 hE4
    refine (nl3.up k4).cat (ms := [(z.length : Int)]) g4 (Low.one (by omega) (by rw [zlen]; omega)) (Nat.le_refl 1) (by decide) fun p5 H5 k5 nl5 => ?_
    have h15 := Same.seqT k5 (Same.seqT k4 h13)
    walk_at "gx"
    refine ⟨z, rfl, by omega, ok.zs, fun p6 H6 B n6 k6 g6 lB oB => ?_⟩
    refine (nl5.up k6).cat g6 oB (Nat.le_trans (Nat.le_of_eq lB) z10) (by decide) fun p7 H7 k7 nl7 => ?_
    have h17 := Same.seqT k7 (Same.seqT k6 h15)
    have h37 := Same.seqT nl7.sm h3
    have h47 := Same.seqT nl7.sm h4
    clear nl5 h15 k6 k5 g4 k4
    walk_at "gx"
    refine ⟨small (by simp), fun p8 n8 => ?_⟩
    generalize hE8 : upd H7 p8 _ = H8; obtain ⟨k8, g8⟩ := updN n8 hE8
    refine (nl7.up k8).cat (ms := [((fs.map V.int).length : Int)]) g8 (Low.one (by omega) (by rw [List.length_map]; omega)) (Nat.le_refl 1) (by decide) fun p9 H9 k9 nl9 => ?_
    have h19 := Same.seqT k9 (Same.seqT k8 h17)
    have h39 := Same.seqT k9 (Same.seqT k8 h37)
    have h49 := Same.seqT k9 (Same.seqT k8 h47)
    clear g8 k8 k9 nl7 h17 h37 h47 nl3 h13
    walk_at "gx"
    refine ⟨fa, _, rfl, .inr h39, fun p10 n10 => ?_⟩
    generalize hE10 : upd H9 p10 _ = H10; obtain ⟨k10, g10⟩ := updN n10 hE10
    refine (nl9.up k10).cat g10 (fun t ht => ⟨(ok.fs t ht).1, by have := (ok.fs t ht).2; omega⟩) f4 (by decide) fun p11 H11 k11 nl11 => ?_
    have h1b := Same.seqT k11 (Same.seqT k10 h19)
    have h4b := Same.seqT k11 (Same.seqT k10 h49)
    have dl := ok.dl
    walk_at "gx"
    refine ⟨small (by simp), fun p12 n12 => ?_⟩
    generalize hE12 : upd H11 p12 _ = H12; obtain ⟨k12, g12⟩ := updN n12 hE12
    refine (nl11.up k12).cat (ms := [((ds.map fun p : Addr × InD => V.ref p.1).length : Int)]) g12 (Low.one (by omega) (by rw [List.length_map]; omega)) (Nat.le_refl 1) (by decide) fun p13 H13 k13 nl13 => ?_
    have h1c := Same.seqT k13 (Same.seqT k12 h1b)
    have h4c := Same.seqT k13 (Same.seqT k12 h4b)
    clear g12 g10 k12 k13 k10 k11 nl9 nl11 h1b h4b h19 h39 h49
    walk_at "gx"
    refine lp_tup (xs := ds.map fun p => V.ref p.1) h4c (fun j σ H' => ∃ (p : Addr) (ns : List Int) (v v' : Option V), σ = [some (.ref d), some (.ref p), v, v'] ∧ Nl H H' p ns (36 + 34 * j))
      ⟨p13, _, none, none, rfl, nl13⟩ (fun j σ H' _ z => by obtain ⟨_, _, _, _, _, e⟩ := z; exact Same.seqT e.sm h4) ?_ ?_
    · rintro j x σ H14 hx ⟨p, ns, v, v', rfl, nl⟩
      have jl := (List.getElem?_eq_some_iff.mp hx).1
      rw [List.length_map] at jl
      obtain ⟨q1, m1, rfl⟩ : ∃ q1 ∈ ds, x = .ref q1.1 := by
        obtain ⟨q1, m1, e⟩ := List.mem_map.mp (List.mem_of_getElem? hx)
        exact ⟨q1, m1, e.symm⟩
      obtain ⟨ps, i1, i2, i3⟩ := (hd.ins q1 m1).parts (ok.dok q1 m1)
      have i14 := Same.seqT nl.sm i1
      walk_at "gx"
      refine ⟨.inl ⟨rfl, _, SqL.of nl.g⟩, ?_⟩
      walk_at "gx"
      refine ⟨rfl, fun hp H15 n15 k15 g15 => ?_⟩
      have nl15 := nl.up k15
      have i15 := Same.seqT k15 i14
      walk_at "gx"
      refine ⟨.inl ⟨rfl, _, SqL.of g15⟩, ?_⟩
      walk_at "gx"
      refine head_ix q1.2 (SqL.of g15) fun jx j7 => ?_
      walk_at "gx"
      refine w_app nl15.g (smallL (by have := nl15.ln; rw [List.length_map]; omega)) ?_
      have nl16 := nl15.snoc (x := (jx : Int)) (by omega) (by omega)
      generalize upd H15 p _ = H16 at nl16 ⊢
      have i16 := Same.seqT nl16.sm i1
      walk_at "gx"
      refine w_slA i16 fun pp H17 k17 g17 => ?_
      rw [cut1] at g17
      have nl17 := nl16.up k17
      walk_at "gx"
      have jln := nl17.ln
      clear nl15 nl16 i15 i14 h1c h4c
      refine lp_tup (xs := ps) g17 (fun m σ H' => ∃ (p : Addr) (ns : List Int) (v' : Option V), σ = [some (.ref d), some (.ref p), some (.ref q1.1), v'] ∧ Nl H H' p ns (36 + 34 * j + 1 + 11 * m) ∧ SqT K H' pp ps)
        ⟨p, _, _, rfl, nl17.le (by omega), g17⟩ (fun m σ H' _ z => by obtain ⟨_, _, _, _, _, e⟩ := z; exact e) ?_ ?_
      · rintro m x σ H18 hx ⟨p, ns, v', rfl, nl, gp⟩
        have ml := (List.getElem?_eq_some_iff.mp hx).1
        have px := (i3 x (List.mem_of_getElem? hx)).same nl.sm
        have lnn := nl.ln
        walk_at "gx"
        rcases px with ⟨n, rfl, n0, n1⟩ | ⟨z, rfl, z10, zs⟩ | ⟨t, ts, rfl, gt, t4, lo⟩
        · refine isi_int rfl ?_
          refine ⟨_, rfl, ifT rfl ?_⟩
          walk_at "gx"
          refine ⟨.inl ⟨rfl, _, SqL.of nl.g⟩, ?_⟩
          walk_at "gx"
          refine w_app nl.g (smallL (by rw [List.length_map]; omega)) ?_
          exact ⟨p, _, _, rfl, (nl.snoc n0 n1).le (by omega), SqT.updL nl.g gp⟩
        · refine isi_int rfl ?_
          refine ⟨_, rfl, ifF rfl ?_⟩
          walk_at "gx"
          refine ⟨.inl ⟨rfl, _, SqL.of nl.g⟩, ?_⟩
          walk_at "gx"
          refine .inr ⟨z, rfl, small (by rw [zlen]; omega), ?_⟩
          walk_at "gx"
          refine w_app nl.g (smallL (by rw [List.length_map]; omega)) ?_
          have nl2 := nl.snoc (x := (z.length : Int)) (by omega) (by rw [zlen]; omega)
          have gp2 := SqT.updL (o := .lst (ns.map V.int ++ [V.int (z.length : Int)])) nl.g gp
          generalize upd H18 p _ = H19 at nl2 gp2 ⊢
          walk_at "gx"
          refine isiS_tup ?_
          walk_at "gx"
          refine ⟨z, rfl, by omega, zs, fun p5 H20 ms n5 k5 g5 lm om => ?_⟩
          refine (nl2.up k5).cat g5 om (Nat.le_trans (Nat.le_of_eq lm) z10) (by omega) fun p6 H21 k6 nl6 => ?_
          walk_at "gx"
          exact ⟨p6, _, _, rfl, nl6.le (by omega), Same.seqT k6 (Same.seqT k5 gp2)⟩
        · refine isiT_int gt ?_
          walk_at "gx"
          refine ⟨.inl ⟨rfl, _, SqL.of nl.g⟩, ?_⟩
          walk_at "gx"
          refine .inl (w_lenT gt ?_)
          walk_at "gx"
          refine w_app nl.g (smallL (by rw [List.length_map]; omega)) ?_
          have nl2 := nl.snoc (x := ((ts.map V.int).length : Int)) (by omega) (by rw [List.length_map]; omega)
          have gp2 := SqT.updL (o := .lst (ns.map V.int ++ [V.int ((ts.map V.int).length : Int)])) nl.g gp
          have gt2 := SqT.updL (o := .lst (ns.map V.int ++ [V.int ((ts.map V.int).length : Int)])) nl.g gt
          generalize upd H18 p _ = H19 at nl2 gp2 gt2 ⊢
          walk_at "gx"
          refine isiT_tup gt2 ?_
          walk_at "gx"
          refine ⟨t, _, rfl, .inr gt2, fun p5 n5 => ?_⟩
          generalize hE5 : upd H19 p5 _ = H20; obtain ⟨k5, g5⟩ := updN n5 hE5
          refine (nl2.up k5).cat g5 lo t4 (by omega) fun p6 H21 k6 nl6 => ?_
          walk_at "gx"
          exact ⟨p6, _, _, rfl, nl6.le (by omega), Same.seqT k6 (Same.seqT k5 gp2)⟩
      · rintro σ H18 ⟨p, ns, v', rfl, nl, _⟩
        exact ⟨p, ns, _, _, rfl, nl.le (by omega)⟩
    · rintro σ H14 ⟨p, ns, v, v', rfl, nl⟩
      rw [List.length_map] at nl
      walk_at "gx"
      exact q p H14 ns nl.np nl.sm nl.g nl.pos (by have := nl.ln; omega) nl.lo
end
end
section
/-! ### the law's sum -/
section
variable {P : Program} {w : World} {K : PySem.W.Frag} {mg : Str → Option Value} {base : Heap}
abbrev s__law_sum : Stmt := top 66
theorem sc__law_sum : FnScope ["_law_values", "_law_found", "_law_one_here"] ["_law_values"] (defScope s__law_sum) := ⟨rfl, rfl, rfl, by decide +kernel, rfl, by decide +kernel, by decide +kernel⟩
theorem ok_sum (D : DefAt K mg "_law_sum" s__law_sum ["_law_values"]) (T : Txt K mg) : DefOk P w K mg base CX0 1 "_law_sum" (spSum K) := by
  refine D.ok sc__law_sum (fun vs H Q E h => ?_) (fun f cdv A outer s H vs Q E hr h => ?_)
  · obtain ⟨a, ns, rfl, _⟩ := h
    rfl
  · obtain ⟨a, ns, rfl, hs, q⟩ := h
    refine ⟨_, (pss_cons (ps_set (i := 1) sc__law_sum.nd rfl (by first | exact Or.inl rfl | exact Or.inr rfl) pe_int) (pss_cons (ps_for PassesOwn.never rfl (show PI _ _ _ (iList K _) from pi_list (pv 0)) (pg_name (i := 2) sc__law_sum.nd rfl (by first | exact Or.inl rfl | exact Or.inr rfl)) (pss_one (ps_set (i := 1) sc__law_sum.nd rfl (by first | exact Or.inl rfl | exact Or.inr rfl) (pe_op op_modN (pe_callTy call_int1 rfl T.b_int bt_int (pa_cons (pe_op op_add (pe_op op_mul (pv 1) pe_int) (pv 2)) pa_nil)) pe_int)))) (pss_one (ps_ret (pv 1))))), ?_⟩
    walk_at "gx"
    refine lp_list hs (fun i σ H' => H' = H ∧ ∃ v, σ = [some (.ref a), some (.int (sumOf 3 (ns.take i))), v]) ⟨rfl, none, rfl⟩ (fun i σ H' _ p => by rw [p.1]; exact hs) ?_ ?_
    · rintro i x σ H' hi ⟨rfl, v, rfl⟩
      obtain ⟨z, rfl, hz, ht⟩ := take_ints hi
      have hb := sumOf_range (ns.take i) 3 (by decide)
      walk_at "gx"
      refine w_I (.inl ⟨by omega, by omega⟩) ?_
      walk_at "gx"
      refine w_I (by decide) ?_
      walk_at "gx"
      refine ⟨rfl, some (.int z), ?_⟩
      rw [ht, sumOf_snoc, Int.fmod_eq_emod_of_nonneg _ (by decide)]
      rfl
    · rintro σ H' ⟨rfl, v, rfl⟩
      rw [List.length_map, List.take_length]
      walk_at "gx"
      exact q
end
end
section
/-! ### the reading of a code, as a plain function of the place -/
abbrev Pr (α : Type) := Nat → Except Nat (α × Nat)
def Pr.pure {α : Type} (x : α) : Pr α := fun o => .ok (x, o)
def Pr.bind {α β : Type} (p : Pr α) (f : α → Pr β) : Pr β := fun o => match p o with
  | .ok (x, o') => f x o'
  | .error e => .error e
def Pr.rep {α : Type} (p : Pr α) : Nat → Pr (List α)
  | 0 => Pr.pure []
  | n + 1 => Pr.bind (Pr.rep p n) fun l => Pr.bind p fun x => Pr.pure (l ++ [x])
def pTake (vals : List V) (lo hi : Int) : Pr Int := fun o => match vals[o]? with
  | some (.int i) => if lo ≤ i ∧ i ≤ hi then .ok (i, o + 1) else .error o
  | _ => .error o
/-- a run that keeps on behind a fault -/
def Run {α : Type} (p : Pr α) (st st' : Nat × Option Nat) (x : α) : Prop :=
  (∃ e, st.2 = some e ∧ st'.2 = some e) ∨ (st.2 = none ∧ ((∃ e, p st.1 = .error e ∧ st'.2 = some e) ∨ ∃ o, p st.1 = .ok (x, o) ∧ st' = (o, none)))
theorem Run.pure {α : Type} {st : Nat × Option Nat} (x : α) : Run (Pr.pure x) st st x := by
  obtain ⟨o, b⟩ := st
  cases b with
  | none => exact .inr ⟨rfl, .inr ⟨o, rfl, rfl⟩⟩
  | some e => exact .inl ⟨e, rfl, rfl⟩
theorem Run.bind {α β : Type} {p : Pr α} {f : α → Pr β} {st st1 st2 : Nat × Option Nat} {x : α} {y : β} (h1 : Run p st st1 x) (h2 : Run (f x) st1 st2 y) : Run (Pr.bind p f) st st2 y := by
  have keep : ∀ e, st1.2 = some e → st2.2 = some e := fun e he => by
    rcases h2 with ⟨e2, a, b⟩ | ⟨a, _⟩
    · rw [he] at a
      rw [b, a]
    · rw [he] at a
      cases a
  rcases h1 with ⟨e, a, b⟩ | ⟨a, ⟨e, b, c⟩ | ⟨o, b, rfl⟩⟩
  · exact .inl ⟨e, a, keep e b⟩
  · exact .inr ⟨a, .inl ⟨e, by unfold Pr.bind; rw [b], keep e c⟩⟩
  · refine .inr ⟨a, ?_⟩
    unfold Pr.bind
    rw [b]
    rcases h2 with ⟨e2, a2, _⟩ | ⟨_, h2⟩
    · cases a2
    · exact h2
/-- all but the one object is as it was -/
def MvS (s : Addr) (H H' : Hp) : Prop := ∀ b u, b ≠ s → H b = some u → H' b = some u
theorem MvS.refl {s : Addr} (H : Hp) : MvS s H H := fun _ _ _ e => e
theorem MvS.trans {s : Addr} {H H' H'' : Hp} (a : MvS s H H') (b : MvS s H' H'') : MvS s H H'' := fun c u n e => b c u n (a c u n e)
theorem MvS.of {s : Addr} {H H' : Hp} (k : Same H H') : MvS s H H' := fun b u _ e => k b u e
theorem MvS.updD {H H' : Hp} {s D : Addr} {o : HO} (m : MvS s H H') (n : H D = none) : MvS s H (upd H' D o) := fun b u b1 e => by
  rw [upd_ne (ne_of_none e n)]
  exact m b u b1 e
def badV : Option Nat → V
  | none => .non
  | some e => .int e
def LSt (H : Hp) (s : Addr) (st : Nat × Option Nat) : Prop := H s = some (.dK [(.inr "at", .int st.1), (.inr "bad", badV st.2)])
theorem LSt.same {H H' : Hp} {s : Addr} {st : Nat × Option Nat} (h : LSt H s st) (k : Same H H') : LSt H' s st := k _ _ h
theorem LSt.ne {H : Hp} {s D : Addr} {st : Nat × Option Nat} (h : LSt H s st) (n : H D = none) : D ≠ s := fun e => by
  have h : H s = _ := h
  rw [e, h] at n
  cases n
theorem LSt.tup {K : PySem.W.Frag} {H H' : Hp} {s a : Addr} {st : Nat × Option Nat} {xs : List V} (h : LSt H s st) (m : MvS s H H') (q : SqT K H a xs) : SqT K H' a xs := by
  have ne : ∀ {u : HO}, H a = some u → (∀ l, u ≠ .dK l) → a ≠ s := fun {u} e d z => by
    have h : H s = _ := h
    rw [z, h] at e
    exact d _ (Option.some.inj e).symm
  rcases q with (e | ⟨o, e⟩) | q
  · exact .inl (.inl (m _ _ (ne e fun _ z => nomatch z) e))
  · exact .inl (.inr ⟨o, m _ _ (ne e fun _ z => nomatch z) e⟩)
  · exact .inr q
theorem LSt.lst {H H' : Hp} {s a : Addr} {st : Nat × Option Nat} {xs : List V} (h : LSt H s st) (m : MvS s H H') (q : H a = some (.lst xs)) : H' a = some (.lst xs) := m _ _ (fun z => by
  have h : H s = _ := h
  rw [z, h] at q
  cases q) q
/-- a code -/
structure Vs (H : Hp) (a : Addr) (vals : List V) : Prop where
  g : H a = some (.lst vals)
  ok : ∀ v ∈ vals, itemV v = true
  ln : vals.length ≤ 1000
theorem Vs.mv {H H' : Hp} {s a : Addr} {st : Nat × Option Nat} {vals : List V} (v : Vs H a vals) (h : LSt H s st) (m : MvS s H H') : Vs H' a vals := ⟨h.lst m v.g, v.ok, v.ln⟩
section
variable {P : Program} {w : World} {K : PySem.W.Frag} {mg : Str → Option Value} {base : Heap}
theorem w_dg {σ : St} {H : Hp} {Q : VK} {i : Nat} {s : Addr} {x : Str} {v : V} {kvs : List (Key × V)} (e : σ[i]? = some (some (.ref s))) (h : H s = some (.dK kvs)) (hv : valV kvs (.inr x) = some v) (q : Q v H) : tDGet (tVar i) (tC (.str x)) σ H Q := by
  refine ⟨_, e, s, v, rfl, ?_, q⟩
  rw [← hv]
  exact DGet.k (k := .inr x) h
theorem w_dp {H : Hp} {s : Addr} {x : Str} {v : V} {kvs ls : List (Key × V)} {F : Hp → Prop} (h : H s = some (.dK kvs)) (hl : kvs.length ≤ 1000) (hp : putK kvs (.inr x) v = ls) (q : F (upd H s (.dK ls))) : rSetD (.ref s) (.str x) v H F := by
  refine ⟨s, _, rfl, DPut.k (k := .inr x) h (Nat.lt_of_le_of_lt hl (by decide)), ?_⟩
  rw [hp]
  exact q
theorem at1 {x y : V} : valV [(.inr "at", x), (.inr "bad", y)] (.inr "at" : Key) = some x := valV_pos rfl
theorem at2 {x y : V} : valV [(.inr "at", x), (.inr "bad", y)] (.inr "bad" : Key) = some y := by
  rw [valV_neg (by intro z; cases z), valV_pos rfl]
theorem put1 {x y v : V} : putK [(.inr "at", x), (.inr "bad", y)] (.inr "at" : Key) v = [(.inr "at", v), (.inr "bad", y)] := rfl
theorem put2 {x y v : V} : putK [(.inr "at", x), (.inr "bad", y)] (.inr "bad" : Key) v = [(.inr "at", x), (.inr "bad", v)] := rfl
/-- an int stands at the place -/
theorem w_good {σ : St} {H : Hp} {Q : VK} {a : Addr} {vals : List V} {o : Nat} (e0 : σ[0]? = some (some (.ref a))) (e4 : σ[4]? = some (some (.int o))) (hv : Vs H a vals) (q : ∀ g : Bool, (g = true → ∃ i, vals[o]? = some (.int i)) → (g = false → ∀ i, vals[o]? ≠ some (.int i)) → Q (.bl g) H) :
    tAndV (tOp (rI0 fun i j => V.bl (decide (i < j))) (tVar 4) (tCB (rLen K) (tCons (tVar 0) tNil)))
      (tAndV (tCB (rIsi K) (tCons (tOp (rIxL K) (tVar 0) (tVar 4)) (tCons (tC (V.ty "int")) tNil))) (tNotV (tCB (rIsi K) (tCons (tOp (rIxL K) (tVar 0) (tVar 4)) (tCons (tC (V.ty "bool")) tNil))))) σ H Q := by
  refine w_andV (w_op (w_var e4 (w_cb (w_cons (w_var e0 (w_nil (w_lenL (SqL.of hv.g) (w_I0 ⟨_, rfl, ?_⟩))))))))
  refine ited (fun h => ?_) (fun h => ?_)
  · have hl : o < vals.length := by omega
    have ha : atI vals o = some vals[o] := by
      unfold atI
      rw [ixN_of (by omega) h]
      exact List.getElem?_eq_getElem (by omega)
    have ho := List.getElem?_eq_getElem hl
    have it := hv.ok _ (List.getElem_mem hl)
    generalize vals[o] = v at ha ho it
    rw [ho] at q
    refine w_andV (w_cb (w_cons (w_op (w_var e0 (w_var e4 (w_ixL (SqL.of hv.g) ha (w_cons (w_c (w_nil (isi_int it ⟨_, rfl, ?_⟩))))))))))
    cases v with
    | int i =>
      refine ifT rfl (w_notV (w_cb (w_cons (w_op (w_var e0 (w_var e4 (w_ixL (SqL.of hv.g) ha (w_cons (w_c (w_nil (isi_bool it ⟨_, rfl, ?_⟩)))))))))))
      exact q _ (fun _ => ⟨i, rfl⟩) fun e => nomatch e
    | bl b =>
      refine ifT rfl (w_notV (w_cb (w_cons (w_op (w_var e0 (w_var e4 (w_ixL (SqL.of hv.g) ha (w_cons (w_c (w_nil (isi_bool it ⟨_, rfl, ?_⟩)))))))))))
      exact q _ (fun e => nomatch e) fun _ i e => nomatch e
    | _ => exact ifF rfl (q _ (fun e => nomatch e) fun _ i e => nomatch e)
  · have hn : vals[o]? = none := List.getElem?_eq_none (by omega)
    exact q _ (fun e => nomatch e) fun _ i e => by rw [hn] at e; cases e
/-- the first fault is kept -/
theorem w_fault {D : Ends} {σ : St} {H : Hp} {s : Addr} {o : Nat} {b : Option Nat} {lo : Int} (e1 : σ[1]? = some (some (.ref s))) (e2 : σ[2]? = some (some (.int lo))) (e4 : σ[4]? = some (some (.int o))) (hs : LSt H s (o, b)) (q : D.rt (.int lo) (upd H s (.dK [(.inr "at", .int o), (.inr "bad", badV (some (b.getD o)))]))) :
    tSeq (tAsg (tIf (tTest (tOp (fun x y H Q => y = V.non ∧ Q (V.bl (decide (x = V.non))) H) (tDGet (tVar 1) (tC (V.str "bad"))) (tC V.non))) (tVar 4) (tDGet (tVar 1) (tC (V.str "bad")))) (gSub (tVar 1) (tC (V.str "bad")) rSetD)) (tRet (tVar 2)) D σ H := by
  have hs' : H s = some (.dK [(.inr "at", .int o), (.inr "bad", badV b)]) := hs
  refine w_seq (w_asg (w_if (w_test (w_op (w_dg e1 hs' at2 (w_c ⟨rfl, _, rfl, ?_⟩))))))
  cases b with
  | none => exact ifT rfl (w_var e4 (w_gsub (w_var e1 (w_c (w_dp hs' (by simp) put2 (w_ret (w_var e2 q)))))))
  | some e => exact ifF rfl (w_dg e1 hs' at2 (w_gsub (w_var e1 (w_c (w_dp hs' (by simp) put2 (w_ret (w_var e2 q)))))))
def spPull : Sp := fun vs H Q _ => ∃ (a s : Addr) (vals : List V) (lo hi : Int) (st : Nat × Option Nat), vs = [.ref a, .ref s, .int lo, .int hi] ∧ Vs H a vals ∧ lo ≤ hi ∧ LSt H s st ∧
  ∀ r H' st', lo ≤ r → r ≤ hi → Run (pTake vals lo hi) st st' r → MvS s H H' → LSt H' s st' → Q (.int r) H'
abbrev s__law_pull : Stmt := top 68
theorem sc__law_pull : FnScope ["_law_values", "_law_state", "_law_low", "_law_high", "_law_at", "_law_good"] ["_law_values", "_law_state", "_law_low", "_law_high"] (defScope s__law_pull) := ⟨rfl, rfl, rfl, by decide +kernel, rfl, by decide +kernel, by decide +kernel⟩
theorem ok_pull (D : DefAt K mg "_law_pull" s__law_pull ["_law_values", "_law_state", "_law_low", "_law_high"]) (T : Txt K mg) : DefOk P w K mg base CX0 1 "_law_pull" spPull := by
  refine D.ok sc__law_pull (fun vs H Q E h => ?_) (fun f cdv A outer s0 H vs Q E hr h => ?_)
  · obtain ⟨a, s, vals, lo, hi, st, rfl, _⟩ := h
    rfl
  · obtain ⟨a, s, vals, lo, hi, ⟨o, b⟩, rfl, hv, lh, hs, q⟩ := h
    have hs' : H s = some (.dK [(.inr "at", .int o), (.inr "bad", badV b)]) := hs
    have hu := Nat.lt_of_le_of_lt (Nat.add_le_add_left (by decide : 1 ≤ 64) _) hr.units
    refine ⟨_, (pss_cons (ps_set (i := 4) sc__law_pull.nd rfl (by first | exact Or.inl rfl | exact Or.inr rfl) (pe_dget hu (pv 1) pe_str (fun _ _ => rfl))) (pss_cons (ps_set (i := 5) sc__law_pull.nd rfl (by first | exact Or.inl rfl | exact Or.inr rfl) (pe_and (pe_cmpR op_lt (pv 4) (pe_callB (show CallR _ _ (rLen K) from call_lenK) rfl T.b_len bt_len (pa_cons (pv 0) pa_nil)) (nomark _)) (pe_and (pe_callB (show CallR _ _ (rIsi K) from call_isi) rfl T.b_isinstance bt_isinstance (pa_cons (pe_ix (show IxR _ (rIxL K) from ix_list) (pv 0) (pv 4) (fun _ _ => rfl)) (pa_cons (pe_bltn (v := .ty "int") (u := .type "int") rfl T.b_int bt_int rfl) pa_nil))) (pe_one (pe_not (pe_callB (show CallR _ _ (rIsi K) from call_isi) rfl T.b_isinstance bt_isinstance (pa_cons (pe_ix (show IxR _ (rIxL K) from ix_list) (pv 0) (pv 4) (fun _ _ => rfl)) (pa_cons (pe_bltn (v := .ty "bool") (u := .type "bool") rfl T.b_bool bt_bool rfl) pa_nil)))))))) (pss_cons (ps_if (PW.pt (pw_or (pt_cmpR op_notN (pe_dget hu (pv 1) pe_str (fun _ _ => rfl)) pe_non (nomark _)) (pw_or (pt_not (pt_val (pv 5))) (pw_or1 (pt_not (pt_chain op_le op_le (pv 2) (pe_ix (show IxR _ (rIxL K) from ix_list) (pv 0) (pv 4) (fun _ _ => rfl)) (pv 3))))))) (pss_cons (ps_asg (pe_ifExp (pt_cmpR op_isN (pe_dget hu (pv 1) pe_str (fun _ _ => rfl)) pe_non (nomark _)) (pv 4) (pe_dget hu (pv 1) pe_str (fun _ _ => rfl))) (pg_sub (pv 1) pe_str (set_dict hu))) (pss_one (ps_ret (pv 2)))) pss_nil) (pss_cons (ps_asg (pe_op op_add (pv 4) pe_int) (pg_sub (pv 1) pe_str (set_dict hu))) (pss_one (ps_ret (pe_ix (show IxR _ (rIxL K) from ix_list) (pv 0) (pv 4) (fun _ _ => rfl)))))))), ?_⟩
    refine w_seq (w_asg (w_dg rfl hs' at1 ?_))
    refine w_gname ?_
    walk_at "g1"
    walk_at "g1"
    refine w_good (by rfl) (by rfl) hv fun g g1 g2 => ?_
    walk_at "gx"
    refine w_dg rfl hs' at2 ?_
    walk_at "gx"
    refine ⟨rfl, ?_⟩
    walk_at "gx"
    have mv : ∀ {kvs : List (Key × V)}, MvS s H (upd H s (.dK kvs)) := fun {kvs} b u n e => by rw [upd_ne n]; exact e
    cases b with
    | some e =>
      refine ifT rfl (ifT rfl ?_)
      refine w_fault (by rfl) (by rfl) (by rfl) hs ?_
      exact q lo _ (o, some e) (Int.le_refl _) lh (.inl ⟨e, rfl, rfl⟩) mv upd_same
    | none =>
      refine ifF rfl ?_
      have bad : pTake vals lo hi o = .error o → Q (.int lo) (upd H s (.dK [(.inr "at", .int o), (.inr "bad", badV (some o))])) := fun h =>
        q lo _ (o, some o) (Int.le_refl _) lh (.inr ⟨rfl, .inl ⟨o, h, rfl⟩⟩) mv upd_same
      walk_at "gx"
      refine iteb (fun eg => ?_) (fun eg => ?_)
      · have eg : g = false := by cases g <;> simp_all
        refine ifT rfl (w_fault (by rfl) (by rfl) (by rfl) hs (bad ?_))
        have z := g2 eg
        unfold pTake
        split
        · rename_i i hi1
          exact absurd hi1 (z i)
        · rfl
      · have eg : g = true := by cases g <;> simp_all
        obtain ⟨i, hi1⟩ := g1 eg
        have hl := (List.getElem?_eq_some_iff.mp hi1).1
        have ha : atI vals o = some (.int i) := by
          unfold atI
          rw [ixN_of (by omega) (by omega)]
          exact hi1
        walk_at "gx"
        refine w_ixL (SqL.of hv.g) ha ?_
        walk_at "gx"
        refine ited (fun l1 => ?_) (fun l1 => ?_)
        · walk_at "gx"
          refine itend (fun l2 => ?_) (fun l2 => ?_)
          · refine w_fault (by rfl) (by rfl) (by rfl) hs (bad ?_)
            unfold pTake
            rw [hi1]
            exact if_neg fun z => l2 z.2
          · walk_at "gx"
            refine w_dp hs' (by simp) put1 ?_
            generalize hE : upd H s _ = H1
            have m1 : MvS s H H1 := by rw [← hE]; exact mv
            have s1 : LSt H1 s (o + 1, none) := by rw [← hE]; exact upd_same
            have v1 := hv.mv hs m1
            walk_at "gx"
            refine w_ixL (SqL.of v1.g) ha ?_
            refine q i H1 (o + 1, none) l1 l2 (.inr ⟨rfl, .inr ⟨o + 1, ?_, rfl⟩⟩) m1 s1
            show pTake vals lo hi o = _
            unfold pTake
            rw [hi1]
            exact if_pos ⟨l1, l2⟩
        · walk_at "gx"
          refine w_fault (by rfl) (by rfl) (by rfl) hs (bad ?_)
          unfold pTake
          rw [hi1]
          exact if_neg fun z => l1 z.1
end
end
section
/-! ### signs and turns, pulled -/
abbrev abcL : List Nat := [46, 126, 65, 66, 67, 68, 69, 70, 71, 72, 73, 74, 75, 76, 77, 78, 79, 80, 81, 82, 83, 84, 85, 86, 87, 88, 89, 90]
def sgn (i : Int) : Nat := abcL[i.toNat]?.getD 0
abbrev tx (l : List Nat) : Str := ⟨l.toArray⟩
def pSign (vals : List V) : Pr Nat := Pr.bind (pTake vals 0 27) fun i => Pr.pure (sgn i)
def pTurns (vals : List V) : Pr (List Int) := Pr.bind (pTake vals 1 4) fun n => Pr.rep (pTake vals 0 3) n.toNat
def pSigns (vals : List V) : Pr (List Nat) := Pr.bind (pTake vals 1 28) fun n => Pr.rep (pSign vals) n.toNat
theorem sgn_at {i : Int} (h0 : 0 ≤ i) (h1 : i ≤ 27) : atI abcL i = some (sgn i) := by
  unfold atI sgn
  rw [ixN_of h0 (by show i < 28; omega)]
  have hl : i.toNat < abcL.length := by show i.toNat < 28; omega
  show abcL[i.toNat]? = some (abcL[i.toNat]?.getD 0)
  rw [List.getElem?_eq_getElem hl]
  rfl
theorem Run.snoc {α : Type} {p : Pr α} {n : Nat} {st st1 st2 : Nat × Option Nat} {l : List α} {x : α} (h1 : Run (Pr.rep p n) st st1 l) (h2 : Run p st1 st2 x) : Run (Pr.rep p (n + 1)) st st2 (l ++ [x]) :=
  h1.bind (h2.bind (Run.pure _))
section
variable {P : Program} {w : World} {K : PySem.W.Frag} {mg : Str → Option Value} {base : Heap}
def spPullSigns : Sp := fun vs H Q _ => ∃ (a s : Addr) (vals : List V) (n : Nat) (st : Nat × Option Nat), vs = [.ref a, .ref s, .int n] ∧ Vs H a vals ∧ n ≤ 100 ∧ LSt H s st ∧
  ∀ (l : List Nat) H' st', l.length = n → Run (Pr.rep (pSign vals) n) st st' l → MvS s H H' → LSt H' s st' → Q (.str (tx l)) H'
abbrev s__law_pull_signs : Stmt := top 69
theorem sc__law_pull_signs : FnScope ["_law_values", "_law_state", "_law_many", "_law_found", "_law_k"] ["_law_values", "_law_state", "_law_many"] (defScope s__law_pull_signs) := ⟨rfl, rfl, rfl, by decide +kernel, rfl, by decide +kernel, by decide +kernel⟩
theorem ok_pull_signs (D : DefAt K mg "_law_pull_signs" s__law_pull_signs ["_law_values", "_law_state", "_law_many"]) (T : Txt K mg) (D__law_pull : DefOk P w K mg base CX0 1 "_law_pull" spPull) : DefOk P w K mg base CX0 2 "_law_pull_signs" spPullSigns := by
  refine D.ok sc__law_pull_signs (fun vs H Q E h => ?_) (fun f cdv A outer s0 H vs Q E hr h => ?_)
  · obtain ⟨a, s, vals, n, st, rfl, _⟩ := h
    rfl
  · obtain ⟨a, s, vals, n, st, rfl, hv, hn, hs, q⟩ := h
    refine ⟨_, (pss_cons (ps_set (i := 3) sc__law_pull_signs.nd rfl (by first | exact Or.inl rfl | exact Or.inr rfl) pe_str) (pss_cons (ps_for PassesOwn.never rfl (pi_range1 rfl T.b_range (pa_cons (pv 2) pa_nil)) (pg_name (i := 4) sc__law_pull_signs.nd rfl (by first | exact Or.inl rfl | exact Or.inr rfl)) (pss_one (ps_set (i := 3) sc__law_pull_signs.nd rfl (by first | exact Or.inl rfl | exact Or.inr rfl) (pe_op op_add_str (pv 3) (pe_ix ix_str pe_str (pe_c D__law_pull (hr.mono (by decide)) pass0 (pa_cons (pv 0) (pa_cons (pv 1) (pa_cons pe_int (pa_cons pe_int pa_nil))))) (fun _ _ => rfl)))))) (pss_one (ps_ret (pv 3))))), ?_⟩
    walk_at "gx"
    refine lp_rng1 (n := n) rfl (by omega) (fun j σ H' => ∃ (l : List Nat) (v : Option V) (st' : Nat × Option Nat), σ = [some (.ref a), some (.ref s), some (.int n), some (.str (tx l)), v] ∧ l.length = j ∧ Run (Pr.rep (pSign vals) j) st st' l ∧ MvS s H H' ∧ LSt H' s st')
      ⟨[], none, st, rfl, rfl, Run.pure [], MvS.refl _, hs⟩ ?_ ?_
    · rintro j σ H1 jn ⟨l, v, st1, rfl, ll, r1, m1, s1⟩
      walk_at "gx"
      refine ⟨a, s, vals, 0, 27, st1, rfl, hv.mv hs m1, by decide, s1, fun i H2 st2 i0 i27 r2 m2 s2 => ?_⟩
      refine w_ixS (small (by decide)) (sgn_at i0 i27) ?_
      have eL : (tx l).length = l.length := by show l.toArray.size = _; simp
      refine ⟨tx l, sg (sgn i), rfl, rfl, small (by rw [eL]; show _ + 1 ≤ _; omega), ?_⟩
      have e : tx l ++ sg (sgn i) = tx (l ++ [sgn i]) := cps_ext (by rw [Str.cps_append, Array.toList_append])
      rw [e]
      walk_at "gx"
      exact ⟨l ++ [sgn i], _, st2, rfl, by rw [List.length_append, ll]; rfl, r1.snoc (r2.bind (Run.pure _)), m1.trans m2, s2⟩
    · rintro σ H1 ⟨l, v, st1, rfl, ll, r1, m1, s1⟩
      walk_at "gx"
      exact q l H1 st1 ll r1 m1 s1
def spPullTurns (K : PySem.W.Frag) : Sp := fun vs H Q _ => ∃ (a s : Addr) (vals : List V) (st : Nat × Option Nat), vs = [.ref a, .ref s] ∧ Vs H a vals ∧ LSt H s st ∧
  ∀ p (ts : List Int) H' st', ts.length ≤ 4 → Run (pTurns vals) st st' ts → MvS s H H' → LSt H' s st' → SqT K H' p (ts.map V.int) → Q (.ref p) H'
abbrev s__law_pull_turns : Stmt := top 70
theorem sc__law_pull_turns : FnScope ["_law_values", "_law_state", "_law_found", "_law_k"] ["_law_values", "_law_state"] (defScope s__law_pull_turns) := ⟨rfl, rfl, rfl, by decide +kernel, rfl, by decide +kernel, by decide +kernel⟩
theorem ok_pull_turns (D : DefAt K mg "_law_pull_turns" s__law_pull_turns ["_law_values", "_law_state"]) (T : Txt K mg) (D__law_pull : DefOk P w K mg base CX0 1 "_law_pull" spPull) : DefOk P w K mg base CX0 2 "_law_pull_turns" (spPullTurns K) := by
  refine D.ok sc__law_pull_turns (fun vs H Q E h => ?_) (fun f cdv A outer s0 H vs Q E hr h => ?_)
  · obtain ⟨a, s, vals, st, rfl, _⟩ := h
    rfl
  · obtain ⟨a, s, vals, st, rfl, hv, hs, q⟩ := h
    refine ⟨_, (pss_cons (ps_set (i := 2) sc__law_pull_turns.nd rfl (by first | exact Or.inl rfl | exact Or.inr rfl) (pe_tup pa_nil)) (pss_cons (ps_for PassesOwn.never rfl (pi_range1 rfl T.b_range (pa_cons (pe_c D__law_pull (hr.mono (by decide)) pass0 (pa_cons (pv 0) (pa_cons (pv 1) (pa_cons pe_int (pa_cons pe_int pa_nil))))) pa_nil)) (pg_name (i := 3) sc__law_pull_turns.nd rfl (by first | exact Or.inl rfl | exact Or.inr rfl)) (pss_one (ps_set (i := 2) sc__law_pull_turns.nd rfl (by first | exact Or.inl rfl | exact Or.inr rfl) (pe_op (show OpR _ (binaryOp .Add) (rCatA K) from op_catA) (pv 2) (pe_tup (pa_cons (pe_c D__law_pull (hr.mono (by decide)) pass0 (pa_cons (pv 0) (pa_cons (pv 1) (pa_cons pe_int (pa_cons pe_int pa_nil))))) pa_nil)))))) (pss_one (ps_ret (pv 2))))), ?_⟩
    walk_at "gx"
    refine ⟨small (by simp), fun p1 n1 => ?_⟩
    generalize hE1 : upd H p1 _ = H1; obtain ⟨k1, g1⟩ := updN n1 hE1
    walk_at "gx"
    refine ⟨a, s, vals, 1, 4, st, rfl, hv.mv hs (MvS.of k1), by decide, hs.same k1, fun n H2 st2 n1 n4 r2 m2 s2 => ?_⟩
    obtain ⟨N, rfl⟩ : ∃ N : Nat, n = N := ⟨n.toNat, by omega⟩
    have m2' := (MvS.of (s := s) k1).trans m2
    walk_at "gx"
    refine lp_rng1 (n := N) rfl (by omega) (fun j σ H' => ∃ (p : Addr) (l : List Int) (v : Option V) (st' : Nat × Option Nat), σ = [some (.ref a), some (.ref s), some (.ref p), v] ∧ l.length = j ∧ Run (Pr.rep (pTake vals 0 3) j) st2 st' l ∧ MvS s H H' ∧ LSt H' s st' ∧ SqT K H' p (l.map V.int))
      ⟨p1, [], none, st2, rfl, rfl, Run.pure [], m2', s2, (hs.same k1).tup m2 (SqT.of g1)⟩ ?_ ?_
    · rintro j σ H3 jn ⟨p, l, v, st3, rfl, ll, r3, m3, s3, g3⟩
      walk_at "gx"
      refine ⟨a, s, vals, 0, 3, st3, rfl, hv.mv hs m3, by decide, s3, fun i H4 st4 i0 i3 r4 m4 s4 => ?_⟩
      have g4 := s3.tup m4 g3
      walk_at "gx"
      refine ⟨small (by simp), fun p5 n5 => ?_⟩
      generalize hE5 : upd H4 p5 _ = H5; obtain ⟨k5, g5⟩ := updN n5 hE5
      refine w_catA (Same.seqT k5 g4) (SqT.of g5) (small (by simp; omega)) fun p6 H6 k6 g6 => ?_
      walk_at "gx"
      exact ⟨p6, l ++ [i], _, st4, rfl, by rw [List.length_append, ll]; rfl, r3.snoc r4, ((m3.trans m4).trans (MvS.of k5)).trans (MvS.of k6), (s4.same k5).same k6, by rw [List.map_append]; exact g6⟩
    · rintro σ H3 ⟨p, l, v, st3, rfl, ll, r3, m3, s3, g3⟩
      walk_at "gx"
      exact q p l H3 st3 (by omega) (r2.bind r3) m3 s3 g3
end
end
section
/-! ### the whole code, pulled -/
def hdw : Nat → Str
  | 0 => "turn" | 1 => "walk" | 2 => "until" | 3 => "toward" | 4 => "beside" | 5 => "near" | _ => "shore"
def frm : Nat → List Nat
  | 0 => [78] | 1 => [110, 110] | 2 => [115] | 3 => [115] | 4 => [110, 97] | 5 => [97, 110] | _ => [110, 110, 110]
inductive Pt
  | n (i : Int) | N (l : List Int) | s (l : List Nat)
abbrev Ins := Nat × List Pt
structure MapD where
  rows : List (List Nat)
  z : List Nat
  fs : List Int
  is : List Ins
def pPart (vals : List V) (c : Nat) : Pr Pt :=
  if c = 110 then Pr.bind (pTake vals 0 99) fun i => Pr.pure (.n i) else if c = 78 then Pr.bind (pTurns vals) fun l => Pr.pure (.N l) else Pr.bind (pSigns vals) fun l => Pr.pure (.s l)
/-- the first n of a row of readers -/
def Pr.upto {α : Type} (ps : Nat → Pr α) : Nat → Pr (List α)
  | 0 => Pr.pure []
  | n + 1 => Pr.bind (Pr.upto ps n) fun l => Pr.bind (ps n) fun x => Pr.pure (l ++ [x])
def pIns (vals : List V) : Pr Ins := Pr.bind (pTake vals 0 6) fun k => Pr.bind (Pr.upto (fun i => pPart vals ((frm k.toNat)[i]?.getD 0)) (frm k.toNat).length) fun ps => Pr.pure (k.toNat, ps)
def pMap (vals : List V) : Pr MapD := Pr.bind (pTake vals 79 79) fun _ => Pr.bind (pTake vals 1 12) fun h => Pr.bind (pTake vals 1 12) fun wd =>
  Pr.bind (Pr.rep (Pr.rep (pSign vals) wd.toNat) h.toNat) fun rows => Pr.bind (pSigns vals) fun z => Pr.bind (pTurns vals) fun fs => Pr.bind (pTake vals 0 20) fun n => Pr.bind (Pr.rep (pIns vals) n.toNat) fun is => Pr.pure ⟨rows, z, fs, is⟩
def intsOf (vals : List V) : List Int := vals.map fun v => match v with
  | .int i => i
  | _ => 0
/-- what the code is read as -/
def codeOf (vals : List V) : Except Nat MapD := match pMap vals 0 with
  | .error e => .error e
  | .ok (m, o) => match pTake vals (sumOf 3 (intsOf (vals.take o))) (sumOf 3 (intsOf (vals.take o))) o with
    | .error e => .error e
    | .ok (_, o') => if o' < vals.length then .error o' else .ok m
def PtIs (K : PySem.W.Frag) (H : Hp) : Pt → V → Prop
  | .n i, v => v = .int i
  | .N l, v => ∃ t, v = .ref t ∧ SqT K H t (l.map V.int)
  | .s l, v => v = .str (tx l)
def InsAt (K : PySem.W.Frag) (H : Hp) (a : Addr) (d : Ins) : Prop := ∃ vs, SqT K H a (.str (hdw d.1) :: vs) ∧ Paired (PtIs K H) d.2 vs
section
variable {P : Program} {w : World} {K : PySem.W.Frag} {mg : Str → Option Value} {base : Heap}
def spParts : Sp := fun vs H Q _ => ∃ k, vs = [.str (hdw k)] ∧ k < 7 ∧ ∀ H', Same H H' → Q (.str (tx (frm k))) H'
abbrev s__law_parts : Stmt := top 62
theorem sc__law_parts : FnScope ["_law_word", "_law_kinds"] ["_law_word"] (defScope s__law_parts) := ⟨rfl, rfl, rfl, by decide +kernel, rfl, by decide +kernel, by decide +kernel⟩
theorem ok_parts (D : DefAt K mg "_law_parts" s__law_parts ["_law_word"]) (T : Txt K mg) : DefOk P w K mg base CX0 1 "_law_parts" spParts := by
  refine D.ok sc__law_parts (fun vs H Q E h => ?_) (fun f cdv A outer s0 H vs Q E hr h => ?_)
  · obtain ⟨k, rfl, _⟩ := h
    rfl
  · obtain ⟨k, rfl, k7, q⟩ := h
    have hu := Nat.lt_of_le_of_lt (Nat.add_le_add_left (by decide : 1 ≤ 64) _) hr.units
    refine ⟨_, (pss_cons (ps_set (i := 1) sc__law_parts.nd rfl (by first | exact Or.inl rfl | exact Or.inr rfl) (pe_disp (pps_cons pe_str pe_str (pps_cons pe_str pe_str (pps_cons pe_str pe_str (pps_cons pe_str pe_str (pps_cons pe_str pe_str (pps_cons pe_str pe_str (pps_cons pe_str pe_str pps_nil))))))) (by rfl) (by rfl) (fun z => by cases z) (by decide))) (pss_one (ps_ret (pe_dget2 hu (pv 1) (pv 0) pe_non ⟨by rfl, by rfl, by rfl, by rfl⟩)))), ?_⟩
    walk_at "gx"
    refine fun p n => ⟨upd_same, [(.inr "turn", .str "N"), (.inr "walk", .str "nn"), (.inr "until", .str "s"), (.inr "toward", .str "s"), (.inr "beside", .str "na"), (.inr "near", .str "an"), (.inr "shore", .str "nnn")], rfl, by decide, ?_⟩
    generalize hE : upd _ p _ = H1
    have k1 : Same H H1 := by
      rw [← hE]
      exact Same.updD (Same.updD (Same.refl _) n) n
    have g1 : H1 p = some (.dK [(.inr "turn", .str "N"), (.inr "walk", .str "nn"), (.inr "until", .str "s"), (.inr "toward", .str "s"), (.inr "beside", .str "na"), (.inr "near", .str "an"), (.inr "shore", .str "nnn")]) := by
      rw [← hE, upd_same]
      rfl
    walk_at "gx"
    have fin : ∀ (x : Str) (v : V), valV [(.inr "turn", V.str "N"), (.inr "walk", .str "nn"), (.inr "until", .str "s"), (.inr "toward", .str "s"), (.inr "beside", .str "na"), (.inr "near", .str "an"), (.inr "shore", .str "nnn")] (.inr x : Key) = some v → Q v H1 →
        tDGet2 (tVar 1) (tVar 0) (tC V.non) [some (.str x), some (.ref p)] H1 Q := fun x v e q => by
      refine ⟨_, rfl, p, rfl, .inl ⟨_, .inl g1⟩, _, rfl, some v, ?_, q⟩
      rw [← e]
      exact DGet.k (k := .inr x) g1
    have h7 : k = 0 ∨ k = 1 ∨ k = 2 ∨ k = 3 ∨ k = 4 ∨ k = 5 ∨ k = 6 := by omega
    rcases h7 with rfl | rfl | rfl | rfl | rfl | rfl | rfl
    · exact fin _ _ rfl (q H1 k1)
    · exact fin _ _ rfl (q H1 k1)
    · exact fin _ _ rfl (q H1 k1)
    · exact fin _ _ rfl (q H1 k1)
    · exact fin _ _ rfl (q H1 k1)
    · exact fin _ _ rfl (q H1 k1)
    · exact fin _ _ rfl (q H1 k1)
end
end
section
/-! ### _law_decoded -/
def Ints (vals : List V) (o : Nat) : Prop := ∃ ns : List Int, vals.take o = ns.map V.int
def Adv {α : Type} (vals : List V) (p : Pr α) : Prop := ∀ o x o', p o = .ok (x, o') → Ints vals o → Ints vals o'
theorem adv_take {vals : List V} {lo hi : Int} : Adv vals (pTake vals lo hi) := fun o x o' h => by
  rintro ⟨ns, e⟩
  unfold pTake at h
  split at h
  · rename_i i hi1
    split at h
    · cases h
      exact ⟨ns ++ [x], by rw [List.take_succ, hi1, e, List.map_append]; rfl⟩
    · cases h
  · cases h
theorem adv_pure {α : Type} {vals : List V} {x : α} : Adv vals (Pr.pure x) := fun o y o' h i => by
  cases h
  exact i
theorem adv_bind {α β : Type} {vals : List V} {p : Pr α} {f : α → Pr β} (h1 : Adv vals p) (h2 : ∀ x, Adv vals (f x)) : Adv vals (Pr.bind p f) := fun o y o' h i => by
  unfold Pr.bind at h
  split at h
  · rename_i x o1 e
    exact h2 x o1 y o' h (h1 o x o1 e i)
  · cases h
theorem adv_rep {α : Type} {vals : List V} {p : Pr α} (h : Adv vals p) : ∀ n, Adv vals (Pr.rep p n)
  | 0 => adv_pure
  | n + 1 => adv_bind (adv_rep h n) fun _ => adv_bind h fun _ => adv_pure
theorem adv_upto {α : Type} {vals : List V} {ps : Nat → Pr α} (h : ∀ i, Adv vals (ps i)) : ∀ n, Adv vals (Pr.upto ps n)
  | 0 => adv_pure
  | n + 1 => adv_bind (adv_upto h n) fun _ => adv_bind (h n) fun _ => adv_pure
theorem adv_sign {vals : List V} : Adv vals (pSign vals) := adv_bind adv_take fun _ => adv_pure
theorem adv_signs {vals : List V} : Adv vals (pSigns vals) := adv_bind adv_take fun _ => adv_rep adv_sign _
theorem adv_turns {vals : List V} : Adv vals (pTurns vals) := adv_bind adv_take fun _ => adv_rep adv_take _
theorem adv_part {vals : List V} {c : Nat} : Adv vals (pPart vals c) := by
  unfold pPart
  split
  · exact adv_bind adv_take fun _ => adv_pure
  · split
    · exact adv_bind adv_turns fun _ => adv_pure
    · exact adv_bind adv_signs fun _ => adv_pure
theorem adv_ins {vals : List V} : Adv vals (pIns vals) := adv_bind adv_take fun _ => adv_bind (adv_upto (fun _ => adv_part) _) fun _ => adv_pure
theorem adv_map {vals : List V} : Adv vals (pMap vals) := adv_bind adv_take fun _ => adv_bind adv_take fun _ => adv_bind adv_take fun _ => adv_bind (adv_rep (adv_rep adv_sign _) _) fun _ => adv_bind adv_signs fun _ => adv_bind adv_turns fun _ => adv_bind adv_take fun _ => adv_bind (adv_rep adv_ins _) fun _ => adv_pure
theorem intsOf_ints {ns : List Int} : intsOf (ns.map V.int) = ns := by
  unfold intsOf
  rw [List.map_map]
  induction ns with
  | nil => rfl
  | cons a l ih =>
    rw [List.map_cons, ih]
    rfl
theorem cut_take {xs : List V} {n : Nat} : cutV xs none (some (n : Int)) = xs.take n := by
  unfold cutV
  rw [HT.sIx_none, HT.sIx_nat, List.drop_zero, Nat.sub_zero]
  rcases Nat.le_total n xs.length with h | h
  · rw [Nat.min_eq_left h]
  · rw [Nat.min_eq_right h, List.take_length, List.take_of_length_le h]
theorem PtIs.tup {K : PySem.W.Frag} {H H' : Hp} (f : ∀ (a : Addr) (xs : List V), SqT K H a xs → SqT K H' a xs) {d : Pt} {v : V} (h : PtIs K H d v) : PtIs K H' d v := by
  cases d with
  | n i => exact h
  | N l => obtain ⟨t, e, g⟩ := h; exact ⟨t, e, f _ _ g⟩
  | s l => exact h
theorem InsAt.tup {K : PySem.W.Frag} {H H' : Hp} (f : ∀ (a : Addr) (xs : List V), SqT K H a xs → SqT K H' a xs) {a : Addr} {d : Ins} (h : InsAt K H a d) : InsAt K H' a d := by
  obtain ⟨vs, g, p⟩ := h
  exact ⟨vs, f _ _ g, Paired.mapP p fun _ _ => PtIs.tup f⟩
abbrev DL := List (Addr × Ins)
abbrev drefs (D : DL) : List V := D.map fun p => V.ref p.1
theorem LSt.tups {H H' : Hp} {s : Addr} {st : Nat × Option Nat} (h : LSt H s st) (m : MvS s H H') (K : PySem.W.Frag) : ∀ (a : Addr) (xs : List V), SqT K H a xs → SqT K H' a xs := fun _ _ q => h.tup m q
/-- what was pulled so far -/
structure Dc (K : PySem.W.Frag) (H H' : Hp) (s rp ip : Addr) (st : Nat × Option Nat) (rows : List (List Nat)) (D : DL) : Prop where
  sm : Same H H'
  ls : LSt H' s st
  hr : H' rp = some (.lst (rows.map fun r => V.str (tx r)))
  hi : H' ip = some (.lst (drefs D))
  ins : ∀ p ∈ D, InsAt K H' p.1 p.2
  ns : H s = none
  nr : H rp = none
  ni : H ip = none
  ne : rp ≠ ip
section
variable {K : PySem.W.Frag} {H H' H'' : Hp} {s rp ip : Addr} {st st' : Nat × Option Nat} {rows : List (List Nat)} {D : DL}
theorem Dc.mv (d : Dc K H H' s rp ip st rows D) (m : MvS s H' H'') (l : LSt H'' s st') : Dc K H H'' s rp ip st' rows D :=
  ⟨fun b u e => m b u (ne_of_none e d.ns) (d.sm b u e), l, d.ls.lst m d.hr, d.ls.lst m d.hi, fun p hp => (d.ins p hp).tup fun _ _ => d.ls.tup m, d.ns, d.nr, d.ni, d.ne⟩
theorem Dc.up (d : Dc K H H' s rp ip st rows D) (k : Same H' H'') : Dc K H H'' s rp ip st rows D := d.mv (MvS.of k) (d.ls.same k)
theorem Dc.row (d : Dc K H H' s rp ip st rows D) (r : List Nat) : Dc K H (upd H' rp (.lst ((rows.map fun r => V.str (tx r)) ++ [V.str (tx r)]))) s rp ip st (rows ++ [r]) D := by
  have e : rp ≠ s := fun e => by have l := d.ls; unfold LSt at l; rw [← e, d.hr] at l; cases l
  exact ⟨Same.updD d.sm d.nr, by unfold LSt; rw [upd_ne e.symm]; exact d.ls, by rw [upd_same, List.map_append]; rfl, by rw [upd_ne d.ne.symm]; exact d.hi, fun p hp => (d.ins p hp).tup fun _ _ => SqT.updL d.hr, d.ns, d.nr, d.ni, d.ne⟩
theorem Dc.inst (d : Dc K H H' s rp ip st rows D) {a : Addr} {i : Ins} (h : InsAt K H' a i) : Dc K H (upd H' ip (.lst (drefs D ++ [V.ref a]))) s rp ip st rows (D ++ [(a, i)]) := by
  have e : ip ≠ s := fun e => by have l := d.ls; unfold LSt at l; rw [← e, d.hi] at l; cases l
  refine ⟨Same.updD d.sm d.ni, by unfold LSt; rw [upd_ne e.symm]; exact d.ls, by rw [upd_ne d.ne]; exact d.hr, by rw [upd_same, drefs, drefs, List.map_append]; rfl, fun p hp => ?_, d.ns, d.nr, d.ni, d.ne⟩
  rcases List.mem_append.mp hp with z | z
  · exact (d.ins p z).tup fun _ _ => SqT.updL d.hi
  · rw [List.mem_singleton.mp z]
    exact h.tup fun _ _ => SqT.updL d.hi
end
/-- a chart as it was read -/
structure TdAt (K : PySem.W.Frag) (H : Hp) (d : Addr) (m : MapD) : Prop where
  ex : ∃ ra fa ia, ∃ D : DL, SqT K H d [.ref ra, .str (tx m.z), .ref fa, .ref ia] ∧ SqT K H ra (m.rows.map fun r => V.str (tx r)) ∧ SqT K H fa (m.fs.map V.int) ∧ SqT K H ia (drefs D) ∧ D.map (·.2) = m.is ∧ ∀ p ∈ D, InsAt K H p.1 p.2
section
variable {P : Program} {w : World} {K : PySem.W.Frag} {mg : Str → Option Value} {base : Heap}
theorem w_par3 {t : TA} {D : Ends} {σ : St} {H : Hp} {i j l : Nat} (q : t σ H fun vs H1 => ∃ u v w, vs = [u, v, w] ∧ D.nx (((σ.set i (some u)).set j (some v)).set l (some w)) H1) : tPar3 i j l t D σ H := q
theorem sg_inj {c d : Nat} : (V.str (sg c) = V.str (sg d)) ↔ c = d := by
  constructor
  · intro h
    injection h with h
    have z : #[c] = #[d] := congrArg Str.cps h
    simpa using z
  · intro h
    rw [h]
theorem prd_snoc {α β : Type} {F : α → β → Prop} {a : α} {b : β} : ∀ {l : List α} {m : List β}, Paired F l m → F a b → Paired F (l ++ [a]) (m ++ [b])
  | _, _, .nil, h => .cons h .nil
  | _, _, .cons r t, h => .cons r (prd_snoc t h)
theorem lp_str {σ : St} {H : Hp} {g : TG} {tb : TS} {D : Ends} {x : Str} (Pv : Nat → St → Hp → Prop) (h0 : Pv 0 σ H)
    (ht : ∀ i σ H c, x.cps.toList[i]? = some c → Pv i σ H → g (.str (sg c)) σ H fun σ2 H2 => tb { D with nx := Pv (i + 1), ct := Pv (i + 1), bk := D.nx } σ2 H2) (hd : ∀ σ H, Pv x.cps.size σ H → D.nx σ H) : LoopOk (Its x) g tb D σ H := by
  refine ⟨fun i m σ H => m = x.cps.size - i ∧ i ≤ x.cps.size ∧ Pv i σ H, ⟨_, rfl, Nat.zero_le _, h0⟩, ?_⟩
  rintro i m σ H ⟨rfl, hi, p⟩
  by_cases hlt : i < x.cps.size
  · refine .inr ⟨hlt, Pv (i + 1), fun σ' H' p' => ⟨x.cps.size - (i + 1), by omega, rfl, hlt, p'⟩, fun v H' y => ?_⟩
    obtain ⟨rfl, c, hc, rfl⟩ := y
    exact ht i σ _ c (by rw [Array.getElem?_toList]; exact hc) p
  · have e : i = x.cps.size := by omega
    subst e
    exact .inl ⟨Nat.le_refl _, hd σ H p⟩
/-- the sum that is due, while there is no fault -/
theorem w_due {σ : St} {H : Hp} {Q : VK} {a s : Addr} {vals : List V} {o : Nat} {b : Option Nat} (e0 : σ[0]? = some (some (.ref a))) (e1 : σ[1]? = some (some (.ref s))) (hv : Vs H a vals) (hs : LSt H s (o, b)) (hi : b = none → Ints vals o)
    (q : ∀ due H', (b = none → due = sumOf 3 (intsOf (vals.take o))) → Same H H' → Q (.int due) H') :
    tIf (tTest (tOp (fun x y H Q => y = V.non ∧ Q (V.bl (decide (x = V.non))) H) (tDGet (tVar 1) (tC (V.str "bad"))) (tC V.non))) (tCall (spSum K) [] E0 (tCons (tSl (rSlL K) (tVar 0) tNoPart (tPart (tDGet (tVar 1) (tC (V.str "at"))))) tNil)) (tC (.int 0)) σ H Q := by
  have hs' : H s = some (.dK [(.inr "at", .int o), (.inr "bad", badV b)]) := hs
  refine w_if (w_test (w_op (w_dg e1 hs' at2 (w_c ⟨rfl, _, rfl, ?_⟩))))
  cases b with
  | none =>
    obtain ⟨ns, e⟩ := hi rfl
    refine ifT rfl (w_call (w_cons (w_sl (w_var e0 (w_noPart (w_part (w_dg e1 hs' at1 ⟨_, rfl, ?_⟩)))))))
    refine w_slL (SqL.of hv.g) fun p H1 n1 k1 g1 => ?_
    rw [cut_take, e] at g1
    refine w_nil ⟨p, ns, rfl, SqL.of g1, ?_⟩
    refine q _ H1 (fun _ => ?_) k1
    rw [e, intsOf_ints]
  | some e => exact ifF rfl (w_c (q _ H (fun z => nomatch z) (Same.refl _)))
def spDecoded (K : PySem.W.Frag) : Sp := fun vs H Q _ => ∃ (a : Addr) (vals : List V), vs = [.ref a] ∧ Vs H a vals ∧
  (∀ e H', codeOf vals = .error e → Same H H' → Q (.int (e : Nat)) H') ∧ ∀ d m H', codeOf vals = .ok m → Same H H' → TdAt K H' d m → Q (.ref d) H'
abbrev s__law_decoded : Stmt := top 71
theorem sc__law_decoded : FnScope ["_law_values", "_law_state", "_law_rows_here", "_law_instructions", "_law_high", "_law_wide", "_law_k", "_law_signs_here", "_law_facings", "_law_word", "_law_one_here", "_law_part", "_law_due_here"] ["_law_values"] (defScope s__law_decoded) := ⟨rfl, rfl, rfl, by decide +kernel, rfl, by decide +kernel, by decide +kernel⟩
theorem ok_decoded (D : DefAt K mg "_law_decoded" s__law_decoded ["_law_values"]) (T : Txt K mg) (D__law_pull : DefOk P w K mg base CX0 1 "_law_pull" spPull) (D__law_pull_signs : DefOk P w K mg base CX0 2 "_law_pull_signs" spPullSigns)
    (D__law_pull_turns : DefOk P w K mg base CX0 2 "_law_pull_turns" (spPullTurns K)) (D__law_heads : DefOk P w K mg base CX0 1 "_law_heads" spHeads) (D__law_parts : DefOk P w K mg base CX0 1 "_law_parts" spParts) (D__law_sum : DefOk P w K mg base CX0 1 "_law_sum" (spSum K)) :
    DefOk P w K mg base CX0 3 "_law_decoded" (spDecoded K) := by
  refine D.ok sc__law_decoded (fun vs H Q E h => ?_) (fun f cdv A outer s0 H vs Q E hr h => ?_)
  · obtain ⟨a, vals, rfl, _⟩ := h
    rfl
  · obtain ⟨a, vals, rfl, hv, qe, qo⟩ := h
    have hu := Nat.lt_of_le_of_lt (Nat.add_le_add_left (by decide : 1 ≤ 64) _) hr.units
    refine ⟨_, (pss_cons (ps_par3 (i := 1) (j := 2) (l := 3) rfl sc__law_decoded.nd rfl rfl rfl (by decide) (by decide) (by decide) rfl rfl rfl (pa_cons (pe_disp (pps_cons pe_str pe_int (pps_cons pe_str pe_non pps_nil)) (by rfl) (by rfl) (fun z => by cases z) (by decide)) (pa_cons (pe_lst pa_nil) (pa_cons (pe_lst pa_nil) pa_nil))) (by rfl)) (pss_cons (ps_expr (pe_c D__law_pull (hr.mono (by decide)) pass0 (pa_cons (pv 0) (pa_cons (pv 1) (pa_cons pe_int (pa_cons pe_int pa_nil)))))) (pss_cons (ps_par (i := 4) (j := 5) rfl sc__law_decoded.nd rfl rfl (by decide) rfl rfl (pa_cons (pe_c D__law_pull (hr.mono (by decide)) pass0 (pa_cons (pv 0) (pa_cons (pv 1) (pa_cons pe_int (pa_cons pe_int pa_nil))))) (pa_cons (pe_c D__law_pull (hr.mono (by decide)) pass0 (pa_cons (pv 0) (pa_cons (pv 1) (pa_cons pe_int (pa_cons pe_int pa_nil))))) pa_nil)) (by rfl)) (pss_cons (ps_for PassesOwn.never rfl (pi_range1 rfl T.b_range (pa_cons (pv 4) pa_nil)) (pg_name (i := 6) sc__law_decoded.nd rfl (by first | exact Or.inl rfl | exact Or.inr rfl)) (pss_one (ps_expr (pe_bm PySem.F.plainAttrs_list PySem.F.slot_list_append PySem.F.type_list_append mt_append (pv 2) (pa_cons (pe_c D__law_pull_signs (hr.mono (by decide)) pass0 (pa_cons (pv 0) (pa_cons (pv 1) (pa_cons (pv 5) pa_nil)))) pa_nil))))) (pss_cons (ps_set (i := 7) sc__law_decoded.nd rfl (by first | exact Or.inl rfl | exact Or.inr rfl) (pe_c D__law_pull_signs (hr.mono (by decide)) pass0 (pa_cons (pv 0) (pa_cons (pv 1) (pa_cons (pe_c D__law_pull (hr.mono (by decide)) pass0 (pa_cons (pv 0) (pa_cons (pv 1) (pa_cons pe_int (pa_cons pe_int pa_nil))))) pa_nil))))) (pss_cons (ps_set (i := 8) sc__law_decoded.nd rfl (by first | exact Or.inl rfl | exact Or.inr rfl) (pe_c D__law_pull_turns (hr.mono (by decide)) pass0 (pa_cons (pv 0) (pa_cons (pv 1) pa_nil)))) (pss_cons (ps_for PassesOwn.never rfl (pi_range1 rfl T.b_range (pa_cons (pe_c D__law_pull (hr.mono (by decide)) pass0 (pa_cons (pv 0) (pa_cons (pv 1) (pa_cons pe_int (pa_cons pe_int pa_nil))))) pa_nil)) (pg_name (i := 6) sc__law_decoded.nd rfl (by first | exact Or.inl rfl | exact Or.inr rfl)) (pss_cons (ps_set (i := 9) sc__law_decoded.nd rfl (by first | exact Or.inl rfl | exact Or.inr rfl) (pe_ix (show IxR _ (rIxL K) from ix_list) (pe_c0 D__law_heads (hr.mono (by decide)) pass0) (pe_c D__law_pull (hr.mono (by decide)) pass0 (pa_cons (pv 0) (pa_cons (pv 1) (pa_cons pe_int (pa_cons pe_int pa_nil))))) (fun _ _ => rfl))) (pss_cons (ps_set (i := 10) sc__law_decoded.nd rfl (by first | exact Or.inl rfl | exact Or.inr rfl) (pe_tup (pa_cons (pv 9) pa_nil))) (pss_cons (ps_for PassesOwn.never rfl (pi_str (pe_c D__law_parts (hr.mono (by decide)) pass0 (pa_cons (pv 9) pa_nil))) (pg_name (i := 11) sc__law_decoded.nd rfl (by first | exact Or.inl rfl | exact Or.inr rfl)) (pss_one (ps_if (pt_cmpR op_eq (pv 11) pe_str (nomark _)) (pss_one (ps_set (i := 10) sc__law_decoded.nd rfl (by first | exact Or.inl rfl | exact Or.inr rfl) (pe_op (show OpR _ (binaryOp .Add) (rCatA K) from op_catA) (pv 10) (pe_tup (pa_cons (pe_c D__law_pull (hr.mono (by decide)) pass0 (pa_cons (pv 0) (pa_cons (pv 1) (pa_cons pe_int (pa_cons pe_int pa_nil))))) pa_nil))))) (pss_one (ps_if (pt_cmpR op_eq (pv 11) pe_str (nomark _)) (pss_one (ps_set (i := 10) sc__law_decoded.nd rfl (by first | exact Or.inl rfl | exact Or.inr rfl) (pe_op (show OpR _ (binaryOp .Add) (rCatA K) from op_catA) (pv 10) (pe_tup (pa_cons (pe_c D__law_pull_turns (hr.mono (by decide)) pass0 (pa_cons (pv 0) (pa_cons (pv 1) pa_nil))) pa_nil))))) (pss_one (ps_set (i := 10) sc__law_decoded.nd rfl (by first | exact Or.inl rfl | exact Or.inr rfl) (pe_op (show OpR _ (binaryOp .Add) (rCatA K) from op_catA) (pv 10) (pe_tup (pa_cons (pe_c D__law_pull_signs (hr.mono (by decide)) pass0 (pa_cons (pv 0) (pa_cons (pv 1) (pa_cons (pe_c D__law_pull (hr.mono (by decide)) pass0 (pa_cons (pv 0) (pa_cons (pv 1) (pa_cons pe_int (pa_cons pe_int pa_nil))))) pa_nil)))) pa_nil)))))))))) (pss_one (ps_expr (pe_bm PySem.F.plainAttrs_list PySem.F.slot_list_append PySem.F.type_list_append mt_append (pv 3) (pa_cons (pv 10) pa_nil)))))))) (pss_cons (ps_set (i := 12) sc__law_decoded.nd rfl (by first | exact Or.inl rfl | exact Or.inr rfl) (pe_ifExp (pt_cmpR op_isN (pe_dget hu (pv 1) pe_str (fun _ _ => rfl)) pe_non (nomark _)) (pe_c D__law_sum (hr.mono (by decide)) pass0 (pa_cons (pe_slice (show SlR _ (rSlL K) from sl_list) (pv 0) po_none (po_some (pe_dget hu (pv 1) pe_str (fun _ _ => rfl)))) pa_nil)) pe_int)) (pss_cons (ps_expr (pe_c D__law_pull (hr.mono (by decide)) pass0 (pa_cons (pv 0) (pa_cons (pv 1) (pa_cons (pv 12) (pa_cons (pv 12) pa_nil)))))) (pss_cons (ps_if (PW.pt (pw_and (pt_cmpR op_isN (pe_dget hu (pv 1) pe_str (fun _ _ => rfl)) pe_non (nomark _)) (pw_and1 (pt_cmpR op_lt (pe_dget hu (pv 1) pe_str (fun _ _ => rfl)) (pe_callB (show CallR _ _ (rLen K) from call_lenK) rfl T.b_len bt_len (pa_cons (pv 0) pa_nil)) (nomark _))))) (pss_one (ps_asg (pe_dget hu (pv 1) pe_str (fun _ _ => rfl)) (pg_sub (pv 1) pe_str (set_dict hu)))) pss_nil) (pss_one (ps_ret (pe_ifExp (pt_cmpR op_isN (pe_dget hu (pv 1) pe_str (fun _ _ => rfl)) pe_non (nomark _)) (pe_tup (pa_cons (pe_callTy call_tuple_of rfl T.b_tuple bt_tuple (pa_cons (pv 2) pa_nil)) (pa_cons (pv 7) (pa_cons (pv 8) (pa_cons (pe_callTy call_tuple_of rfl T.b_tuple bt_tuple (pa_cons (pv 3) pa_nil)) pa_nil))))) (pe_dget hu (pv 1) pe_str (fun _ _ => rfl))))))))))))))), ?_⟩
    walk_at "gx"
    refine fun s n => ⟨upd_same, [(.inr "at", .int 0), (.inr "bad", .non)], rfl, by decide, ?_⟩
    generalize hE : upd _ s _ = H1
    have k1 : Same H H1 := by
      rw [← hE]
      exact Same.updD (Same.updD (Same.refl _) n) n
    have g1 : LSt H1 s (0, none) := by
      rw [← hE]
      exact upd_same
    walk_at "gx"
    refine ⟨small (by simp), fun rp n2 => ?_⟩
    generalize hE2 : upd H1 rp _ = H2; obtain ⟨k2, g2⟩ := updN n2 hE2
    walk_at "gx"
    refine ⟨small (by simp), fun ip n3 => ?_⟩
    generalize hE3 : upd H2 ip _ = H3; obtain ⟨k3, g3⟩ := updN n3 hE3
    have nrp := none_back k1 n2
    have nip : H ip = none := none_back (show Same H H2 from fun b u e => k2 _ _ (k1 _ _ e)) n3
    have d0 : Dc K H H3 s rp ip (0, none) [] [] := ⟨fun b u e => k3 _ _ (k2 _ _ (k1 _ _ e)), (g1.same k2).same k3, k3 _ _ g2, g3, (fun p hp => nomatch hp), n, nrp, nip, fun e => by rw [e] at g2; rw [g2] at n3; cases n3⟩
    clear g1 g2 g3 k1 k2 k3 hE hE2 hE3 n2 n3
    have pull : ∀ {H' st rows D}, Dc K H H' s rp ip st rows D → Vs H' a vals := fun d => ⟨d.sm _ _ hv.g, hv.ok, hv.ln⟩
    walk_at "gx"
    refine ⟨_, _, _, rfl, ?_⟩
    walk_at "gx"
    refine ⟨a, s, vals, 79, 79, _, rfl, pull d0, by decide, d0.ls, fun r1 H4 sa _ _ runA m1 s1 => ?_⟩
    have d1 := d0.mv m1 s1
    walk_at "gx"
    refine ⟨a, s, vals, 1, 12, _, rfl, pull d1, by decide, d1.ls, fun hh H5 st2 a1 a2 run2 m2 s2 => ?_⟩
    have d2 := d1.mv m2 s2
    walk_at "gx"
    refine ⟨a, s, vals, 1, 12, _, rfl, pull d2, by decide, d2.ls, fun ww H6 st3 b1 b2 run3 m3 s3 => ?_⟩
    have d3 := d2.mv m3 s3
    obtain ⟨h, rfl⟩ : ∃ h : Nat, hh = h := ⟨hh.toNat, by omega⟩
    obtain ⟨wd, rfl⟩ : ∃ wd : Nat, ww = wd := ⟨ww.toNat, by omega⟩
    clear d0 d1 d2 m1 m2 m3 s1 s2 s3
    walk_at "gx"
    refine ⟨_, _, rfl, ?_⟩
    walk_at "gx"
    refine lp_rng1 (n := h) rfl (by omega) (fun j σ H' => ∃ (rows : List (List Nat)) (v : Option V) (st : Nat × Option Nat), σ = [some (.ref a), some (.ref s), some (.ref rp), some (.ref ip), some (.int h), some (.int wd), v, none, none, none, none, none, none] ∧ rows.length = j ∧ Run (Pr.rep (Pr.rep (pSign vals) wd) j) st3 st rows ∧ Dc K H H' s rp ip st rows [])
      ⟨[], none, st3, rfl, rfl, Run.pure [], d3⟩ ?_ ?_
    · rintro j σ H7 jh ⟨rows, v, st, rfl, lr, run, d⟩
      walk_at "gx"
      refine ⟨.inl ⟨rfl, _, SqL.of d.hr⟩, ?_⟩
      walk_at "gx"
      refine ⟨a, s, vals, wd, st, rfl, pull d, by omega, d.ls, fun l H8 st' ll run' m' s' => ?_⟩
      have d' := d.mv m' s'
      walk_at "gx"
      refine w_app d'.hr (smallL (by rw [List.length_map]; omega)) ?_
      walk_at "gx"
      exact ⟨rows ++ [l], _, st', rfl, by rw [List.length_append, lr]; rfl, run.snoc run', d'.row l⟩
    · rintro σ H7 ⟨rows, v, st4, rfl, lr, run4, d4⟩
      walk_at "gx"
      refine ⟨a, s, vals, 1, 28, _, rfl, pull d4, by decide, d4.ls, fun nn H8 st5 c1 c2 run5 m5 s5 => ?_⟩
      have d5 := d4.mv m5 s5
      obtain ⟨n, rfl⟩ : ∃ n : Nat, nn = n := ⟨nn.toNat, by omega⟩
      walk_at "gx"
      refine ⟨a, s, vals, n, _, rfl, pull d5, by omega, d5.ls, fun z H9 st6 lz run6 m6 s6 => ?_⟩
      have d6 := d5.mv m6 s6
      walk_at "gx"
      refine ⟨a, s, vals, _, rfl, pull d6, d6.ls, fun fa fs H10 st7 lf run7 m7 s7 gf => ?_⟩
      have d7 := d6.mv m7 s7
      walk_at "gx"
      refine ⟨a, s, vals, 0, 20, _, rfl, pull d7, by decide, d7.ls, fun nn H11 st8 e1 e2 run8 m8 s8 => ?_⟩
      have d8 := d7.mv m8 s8
      have gf8 := s7.tup m8 gf
      obtain ⟨N, rfl⟩ : ∃ n : Nat, nn = n := ⟨nn.toNat, by omega⟩
      clear d4 d5 d6 d7 m5 m6 m7 m8 s5 s6 s7 s8 gf
      walk_at "gx"
      refine lp_rng1 (n := N) rfl (by omega) (fun j σ H' => ∃ (D : DL) (v v9 v10 v11 : Option V) (st : Nat × Option Nat), σ = [some (.ref a), some (.ref s), some (.ref rp), some (.ref ip), some (.int h), some (.int wd), v, some (.str (tx z)), some (.ref fa), v9, v10, v11, none] ∧ D.length = j ∧ Run (Pr.rep (pIns vals) j) st8 st (D.map (·.2)) ∧ Dc K H H' s rp ip st rows D ∧ SqT K H' fa (fs.map V.int))
        ⟨[], _, none, none, none, st8, rfl, rfl, Run.pure [], d8, gf8⟩ ?_ ?_
      · rintro j σ H12 jN ⟨D, v, v9, v10, v11, st, rfl, lD, run, d, gf⟩
        walk_at "gx"
        refine ⟨rfl, fun hp H13 n13 k13 g13 => ?_⟩
        have d' := d.up k13
        have gf' := Same.seqT k13 gf
        walk_at "gx"
        refine ⟨a, s, vals, 0, 6, _, rfl, pull d', by decide, d'.ls, fun kk H14 st1 k0 k6 run1 m1 s1 => ?_⟩
        have d1 := d'.mv m1 s1
        have gf1 := d'.ls.tup m1 gf'
        have g14 := d'.ls.lst m1 g13
        obtain ⟨k, rfl⟩ : ∃ n : Nat, kk = n := ⟨kk.toNat, by omega⟩
        have hk : atI hd7 (k : Int) = some (.str (hdw k)) := by
          have h7 : k = 0 ∨ k = 1 ∨ k = 2 ∨ k = 3 ∨ k = 4 ∨ k = 5 ∨ k = 6 := by omega
          rcases h7 with rfl | rfl | rfl | rfl | rfl | rfl | rfl <;> rfl
        refine w_ixL (SqL.of g14) hk ?_
        walk_at "gx"
        refine ⟨small (by simp), fun op n15 => ?_⟩
        generalize hE15 : upd H14 op _ = H15; obtain ⟨k15, g15⟩ := updN n15 hE15
        have d2 := d1.up k15
        have gf2 := Same.seqT k15 gf1
        clear d d' d1 gf gf' gf1 g13 g14
        walk_at "gx"
        refine ⟨k, rfl, by omega, fun H16 k16 => ?_⟩
        have d3 := d2.up k16
        have gf3 := Same.seqT k16 gf2
        have g16 : SqT K H16 op [.str (hdw k)] := Same.seqT k16 (SqT.of g15)
        walk_at "gx"
        refine lp_str (x := tx (frm k)) (fun m σ H' => ∃ (op : Addr) (ps : List Pt) (us : List V) (v11 : Option V) (st' : Nat × Option Nat), σ = [some (.ref a), some (.ref s), some (.ref rp), some (.ref ip), some (.int h), some (.int wd), some (.int j), some (.str (tx z)), some (.ref fa), some (.str (hdw k)), some (.ref op), v11, none] ∧
            Run (Pr.upto (fun i => pPart vals ((frm k)[i]?.getD 0)) m) st1 st' ps ∧ Dc K H H' s rp ip st' rows D ∧ SqT K H' fa (fs.map V.int) ∧ SqT K H' op (.str (hdw k) :: us) ∧ Paired (PtIs K H') ps us ∧ us.length = m)
          ⟨op, [], [], _, st1, rfl, Run.pure [], d3, gf3, g16, .nil, rfl⟩ ?_ ?_
        · rintro m σ H17 c hc ⟨op, ps, us, v11, st', rfl, run', d, gf, go, pp, lu⟩
          have hc : (frm k)[m]? = some c := hc
          have fl : (frm k).length ≤ 3 := by
            have h7 : k = 0 ∨ k = 1 ∨ k = 2 ∨ k = 3 ∨ k = 4 ∨ k = 5 ∨ k = 6 := by omega
            rcases h7 with rfl | rfl | rfl | rfl | rfl | rfl | rfl <;> decide
          have ml := (List.getElem?_eq_some_iff.mp hc).1
          have ext : ∀ {x : Pt} {st'' : Nat × Option Nat}, Run (pPart vals c) st' st'' x → Run (Pr.upto (fun i => pPart vals ((frm k)[i]?.getD 0)) (m + 1)) st1 st'' (ps ++ [x]) := fun {x st''} r => by
            refine run'.bind (Run.bind (x := x) ?_ (Run.pure _))
            show Run (pPart vals ((frm k)[m]?.getD 0)) st' st'' x
            rw [hc]
            exact r
          walk_at "gx"
          refine ited (fun c1 => ?_) (fun c1 => ?_)
          · have c1 : c = 110 := sg_inj.mp c1
            walk_at "gx"
            refine ⟨a, s, vals, 0, 99, _, rfl, pull d, by decide, d.ls, fun i H18 st2 _ _ r2 m2 s2 => ?_⟩
            have d2 := d.mv m2 s2
            have f2 := d.ls.tups m2 K
            walk_at "gx"
            refine ⟨small (by simp), fun p5 n5 => ?_⟩
            generalize hE5 : upd H18 p5 _ = H19; obtain ⟨k5, g5⟩ := updN n5 hE5
            refine w_catA (Same.seqT k5 (f2 _ _ go)) (SqT.of g5) (small (by simp; omega)) fun p6 H20 k6 g6 => ?_
            walk_at "gx"
            have g7 : SqT K H20 p6 (V.str (hdw k) :: (us ++ [V.int i])) := g6
            exact ⟨p6, ps ++ [.n i], us ++ [.int i], _, st2, rfl, ext (by unfold pPart; rw [if_pos c1]; exact r2.bind (Run.pure _)), (d2.up k5).up k6, Same.seqT k6 (Same.seqT k5 (f2 _ _ gf)), g7, prd_snoc (F := PtIs K H20) (a := .n i) (b := .int i) (Paired.mapP pp fun _ _ q => ((q.tup f2).tup fun _ _ => Same.seqT k5).tup fun _ _ => Same.seqT k6) rfl, by rw [List.length_append, lu]; rfl⟩
          · walk_at "gx"
            refine ited (fun c2 => ?_) (fun c2 => ?_)
            · have c2 : c = 78 := sg_inj.mp c2
              walk_at "gx"
              refine ⟨a, s, vals, _, rfl, pull d, d.ls, fun t ts H18 st2 _ r2 m2 s2 g2 => ?_⟩
              have d2 := d.mv m2 s2
              have f2 := d.ls.tups m2 K
              walk_at "gx"
              refine ⟨small (by simp), fun p5 n5 => ?_⟩
              generalize hE5 : upd H18 p5 _ = H19; obtain ⟨k5, g5⟩ := updN n5 hE5
              refine w_catA (Same.seqT k5 (f2 _ _ go)) (SqT.of g5) (small (by simp; omega)) fun p6 H20 k6 g6 => ?_
              walk_at "gx"
              have g7 : SqT K H20 p6 (V.str (hdw k) :: (us ++ [V.ref t])) := g6
              exact ⟨p6, ps ++ [.N ts], us ++ [.ref t], _, st2, rfl, ext (by unfold pPart; rw [if_neg (by omega), if_pos c2]; exact r2.bind (Run.pure _)), (d2.up k5).up k6, Same.seqT k6 (Same.seqT k5 (f2 _ _ gf)), g7, prd_snoc (F := PtIs K H20) (a := .N ts) (b := .ref t) (Paired.mapP pp fun _ _ q => ((q.tup f2).tup fun _ _ => Same.seqT k5).tup fun _ _ => Same.seqT k6) ⟨t, rfl, Same.seqT k6 (Same.seqT k5 g2)⟩, by rw [List.length_append, lu]; rfl⟩
            · have c3 : c ≠ 110 := fun e => c1 (sg_inj.mpr e)
              have c4 : c ≠ 78 := fun e => c2 (sg_inj.mpr e)
              walk_at "gx"
              refine ⟨a, s, vals, 1, 28, _, rfl, pull d, by decide, d.ls, fun nn H18 st2 b1 b2 r2 m2 s2 => ?_⟩
              have d2 := d.mv m2 s2
              have f2 := d.ls.tups m2 K
              obtain ⟨n', rfl⟩ : ∃ n : Nat, nn = n := ⟨nn.toNat, by omega⟩
              walk_at "gx"
              refine ⟨a, s, vals, n', _, rfl, pull d2, by omega, d2.ls, fun l H19 st3 _ r3 m3 s3 => ?_⟩
              have d3 := d2.mv m3 s3
              have f3 := d2.ls.tups m3 K
              walk_at "gx"
              refine ⟨small (by simp), fun p5 n5 => ?_⟩
              generalize hE5 : upd H19 p5 _ = H20; obtain ⟨k5, g5⟩ := updN n5 hE5
              refine w_catA (Same.seqT k5 (f3 _ _ (f2 _ _ go))) (SqT.of g5) (small (by simp; omega)) fun p6 H21 k6 g6 => ?_
              walk_at "gx"
              have g7 : SqT K H21 p6 (V.str (hdw k) :: (us ++ [V.str (tx l)])) := g6
              exact ⟨p6, ps ++ [.s l], us ++ [.str (tx l)], _, st3, rfl, ext (by unfold pPart; rw [if_neg c3, if_neg c4]; exact (r2.bind r3).bind (Run.pure _)), (d3.up k5).up k6, Same.seqT k6 (Same.seqT k5 (f3 _ _ (f2 _ _ gf))), g7, prd_snoc (F := PtIs K H21) (a := .s l) (b := .str (tx l)) (Paired.mapP pp fun _ _ q => (((q.tup f2).tup f3).tup fun _ _ => Same.seqT k5).tup fun _ _ => Same.seqT k6) rfl, by rw [List.length_append, lu]; rfl⟩
        · rintro σ H17 ⟨op, ps, us, v11, st', rfl, run', d, gf, go, pp, lu⟩
          have run2 : Run (pIns vals) st st' (k, ps) := run1.bind (Run.bind (x := ps) run' (Run.pure _))
          walk_at "gx"
          refine ⟨.inl ⟨rfl, _, SqL.of d.hi⟩, ?_⟩
          walk_at "gx"
          refine w_app d.hi (smallL (by rw [List.length_map]; omega)) ?_
          walk_at "gx"
          exact ⟨D ++ [(op, (k, ps))], _, _, _, _, st', rfl, by rw [List.length_append, lD]; rfl, by rw [List.map_append]; exact run.snoc run2, d.inst ⟨us, go, pp⟩, SqT.updL d.hi gf⟩
      · rintro σ H12 ⟨D, v, v9, v10, v11, st, rfl, lD, run, d, gf⟩
        have all : Run (pMap vals) (0, none) st ⟨rows, z, fs, D.map (·.2)⟩ := runA.bind (run2.bind (run3.bind (run4.bind ((run5.bind run6).bind (run7.bind (run8.bind (run.bind (Run.pure _))))))))
        clear runA run2 run3 run4 run5 run6 run7 run8 run
        walk_at "g1"
        walk_at "g1"
        obtain ⟨o, b⟩ := st
        refine w_due rfl rfl (pull d) d.ls (fun hb => ?_) fun due H13 hdue k13 => ?_
        · rcases all with ⟨e, z, _⟩ | ⟨_, ⟨e, z1, z2⟩ | ⟨o', z1, z2⟩⟩
          · cases z
          · rw [hb] at z2
            cases z2
          · cases z2
            exact adv_map _ _ _ z1 ⟨[], rfl⟩
        have d2 := d.up k13
        have gf2 := Same.seqT k13 gf
        walk_at "gx"
        refine ⟨a, s, vals, due, due, _, rfl, pull d2, Int.le_refl _, d2.ls, fun r H14 st2 _ _ runZ m2 s2 => ?_⟩
        have d3 := d2.mv m2 s2
        have gf3 := d2.ls.tup m2 gf2
        obtain ⟨o2, b2⟩ := st2
        have fin : (∃ e, b2 = some e ∧ codeOf vals = .error e) ∨ (b2 = none ∧ codeOf vals = if o2 < vals.length then .error o2 else .ok ⟨rows, z, fs, D.map (·.2)⟩) := by
          rcases all with ⟨e, z, _⟩ | ⟨_, ⟨e, z1, z2⟩ | ⟨o', z1, z2⟩⟩
          · cases z
          · cases z2
            rcases runZ with ⟨e', y1, y2⟩ | ⟨y1, _⟩
            · cases y1
              exact .inl ⟨e, y2, by unfold codeOf; rw [z1]⟩
            · cases y1
          · cases z2
            have hd := hdue rfl
            rcases runZ with ⟨e', y1, y2⟩ | ⟨_, ⟨e', y1, y2⟩ | ⟨o'', y1, y2⟩⟩
            · cases y1
            · refine .inl ⟨e', y2, ?_⟩
              have y1 : pTake vals due due o = .error e' := y1
              unfold codeOf
              rw [z1]
              dsimp only
              rw [← hd, y1]
            · cases y2
              refine .inr ⟨rfl, ?_⟩
              have y1 : pTake vals due due o = .ok (r, o2) := y1
              unfold codeOf
              rw [z1]
              dsimp only
              rw [← hd, y1]
        clear all runZ hdue
        have l3 : H14 s = some (.dK [(.inr "at", .int o2), (.inr "bad", badV b2)]) := d3.ls
        walk_at "g1"
        walk_at "g1"
        walk_at "g1"
        walk_at "g1"
        walk_at "g1"
        refine w_dg rfl l3 at2 (w_c ⟨rfl, _, rfl, ?_⟩)
        rcases fin with ⟨e, rfl, hcode⟩ | ⟨rfl, hcode⟩
        · refine ifF rfl ?_
          walk_at "gx"
          refine w_dg rfl l3 at2 (w_c ⟨rfl, _, rfl, ifF rfl ?_⟩)
          exact w_dg rfl l3 at2 (qe e H14 hcode d3.sm)
        · refine ifT rfl ?_
          walk_at "g1"
          walk_at "g1"
          refine w_dg rfl l3 at1 ?_
          have v3 := (pull d3).g
          refine w_cb (w_cons (w_var rfl (w_nil (w_lenL (SqL.of v3) (w_I0 ⟨_, rfl, ?_⟩)))))
          refine ited (fun hlt => ?_) (fun hlt => ?_)
          · refine w_asg (w_dg rfl l3 at1 (w_gsub (w_var rfl (w_c (w_dp l3 (by simp) put2 ?_)))))
            generalize hE : upd H14 s _ = H15
            have k15 : MvS s H14 H15 := by rw [← hE]; exact fun b u n e => by rw [upd_ne n]; exact e
            have l5 : H15 s = some (.dK [(.inr "at", .int o2), (.inr "bad", .int o2)]) := by rw [← hE]; exact upd_same
            have d4 := d3.mv (st' := (o2, some o2)) k15 l5
            iterate 4 walk_at "g1"
            refine w_dg rfl l5 at2 (w_c ⟨rfl, _, rfl, ifF rfl ?_⟩)
            rw [if_pos (by omega)] at hcode
            exact w_dg rfl l5 at2 (qe o2 H15 hcode d4.sm)
          · rw [if_neg (by omega)] at hcode
            iterate 5 walk_at "g1"
            refine w_dg rfl l3 at2 (w_c ⟨rfl, _, rfl, ifT rfl ?_⟩)
            walk_at "gx"
            refine ⟨rp, _, rfl, .inl ⟨SqL.of d3.hr, fun p5 n5 => ?_⟩⟩
            generalize hE5 : upd H14 p5 _ = H15; obtain ⟨k5, g5⟩ := updN n5 hE5
            have d5 := d3.up k5
            walk_at "gx"
            refine ⟨ip, _, rfl, .inl ⟨SqL.of d5.hi, fun p6 n6 => ?_⟩⟩
            generalize hE6 : upd H15 p6 _ = H16; obtain ⟨k6, g6⟩ := updN n6 hE6
            have d6 := d5.up k6
            walk_at "gx"
            refine ⟨small (by simp), fun p7 n7 => ?_⟩
            generalize hE7 : upd H16 p7 _ = H17; obtain ⟨k7, g7⟩ := updN n7 hE7
            have d7 := d6.up k7
            exact qo p7 _ H17 hcode d7.sm ⟨p5, fa, p6, D, SqT.of g7, Same.seqT k7 (Same.seqT k6 (SqT.of g5)), Same.seqT k7 (Same.seqT k6 (Same.seqT k5 gf3)), Same.seqT k7 (SqT.of g6), rfl, d7.ins⟩
end
end
section
/-! ### list(text); signs that are out of order -/
theorem vals_get : ∀ {xs : List V} {us : List Value}, xs.length = us.length → (∀ (j : Nat) (x : V) (u : Value), xs[j]? = some x → us[j]? = some u → RelV x u) → Vals xs us
  | [], [], _, _ => .nil
  | [], _ :: _, e, _ => nomatch e
  | _ :: _, [], e, _ => nomatch e
  | x :: xs, u :: us, e, h => .cons (h 0 x u rfl rfl) (vals_get (Nat.succ.inj e) fun j y v a b => h (j + 1) y v a b)
def rListS : List V → Hp → VK → Prop := fun xs H Q => ∃ (x : Str), xs = [V.str x] ∧ x.cps.size ≤ 1000 ∧ ∀ p, H p = none → Q (.ref p) (upd H p (.lst ((x.cps.toList.map sg).map V.str)))
theorem cr_listS {X : Cx} (hc : X.calm = true) : CallR X (.type "list") rListS := by
  intro pins s σ H xs us Q I r h
  obtain ⟨x, rfl, hl, q⟩ := h
  obtain ⟨u, rfl, t, rfl⟩ := vals1 r
  refine PySem.call_list_str (I.ok.hd hc) x t (hn := small (by omega)) fun h' tk acc c k e ia => ?_
  have v : Vals ((x.cps.toList.map sg).map V.str) acc.toList := by
    refine vals_get (by rw [List.length_map, List.length_map, Array.length_toList, Array.length_toList, ia.1]) fun j y v h1 h2 => ?_
    obtain ⟨d, u, hd, rfl⟩ := ia.2 j v (by rw [← Array.getElem?_toList]; exact h2)
    rw [List.getElem?_map, List.getElem?_map, Array.getElem?_toList, hd] at h1
    cases h1
    exact ⟨u, rfl⟩
  have ob : ObjOk X.prog X.w (upd H s.heap.objs.size (.lst ((x.cps.toList.map sg).map V.str))) h' s.heap.objs.size (.lst ((x.cps.toList.map sg).map V.str)) :=
    ⟨by rw [List.length_map, List.length_map, Array.length_toList]; exact small (by omega), acc.toList, c, v, e⟩
  exact ⟨.ref s.heap.objs.size, _, I.laid (t' := tk) k (Nat.le_refl _) ob, rfl, q _ (I.hok.fresh (Nat.le_refl _))⟩
/-- texts of one sign, as data -/
abbrev sgD (l : List Nat) : List PyData := l.map fun c => .str (sg c)
theorem sg_eqb (a b : Nat) : (sg a == sg b) = decide (a = b) := by
  by_cases h : a = b
  · subst h
    rw [decide_eq_true rfl]
    exact beq_self_eq_true _
  · rw [decide_eq_false h]
    refine Bool.eq_false_iff.mpr fun z => h ?_
    have e := eq_of_beq z
    have e2 : #[a] = #[b] := congrArg Str.cps e
    simpa using e2
theorem eqvAll_sg : ∀ (l m : List Nat), PyData.eqvAll (sgD l) (sgD m) = decide (l = m)
  | [], [] => rfl
  | [], _ :: _ => rfl
  | _ :: _, [] => rfl
  | a :: l, b :: m => by
    show PyData.eqvAll (PyData.str (sg a) :: sgD l) (PyData.str (sg b) :: sgD m) = _
    rw [PyData.eqvAll, eqvAll_sg l m, PyData.eqv, sg_eqb]
    by_cases h : a = b <;> by_cases k : l = m <;> simp [h, k]
theorem can_tx (l : List Nat) (hl : l.length ≤ 1000) (h : ∀ c ∈ l, c ≤ 126) : PyData.canLay0 (.str (tx l)) = true := by
  rw [PyData.canLay0]
  show (l.toArray.all fun c => decide (c < 1114112)) = true
  rw [List.all_toArray, List.all_eq_true]
  exact fun c hc => decide_eq_true (by have := h c hc; omega)
theorem can_sg (c : Nat) (h : c ≤ 126) : PyData.canLay0 (.str (sg c)) = true := can_tx [c] (by simp) fun d hd => by rw [List.mem_singleton.mp hd]; exact h
section
variable {P : Program} {w : World} {K : PySem.W.Frag} {mg : Str → Option Value} {base : Heap}
def wS (l : List Nat) (water : Bool) : Bool := (decide (126 ∈ l) && !water) || !decide (l = S7.uniq l)
def spWS : Sp := fun vs H Q _ => ∃ (l : List Nat) (b : Bool), vs = [.str (tx l), .bl b] ∧ l.length ≤ 1000 ∧ (∀ c ∈ l, c ≤ 126) ∧ ∀ H', Same H H' → Q (.bl (wS l b)) H'
abbrev s__law_wrong_signs : Stmt := top 72
theorem sc__law_wrong_signs : FnScope ["_law_signs_here", "_law_water"] ["_law_signs_here", "_law_water"] (defScope s__law_wrong_signs) := ⟨rfl, rfl, rfl, by decide +kernel, rfl, by decide +kernel, by decide +kernel⟩
theorem ok_wrong_signs (D : DefAt K mg "_law_wrong_signs" s__law_wrong_signs ["_law_signs_here", "_law_water"]) (T : Txt K mg) : DefOk P w K mg base CX0 1 "_law_wrong_signs" spWS := by
  refine D.ok sc__law_wrong_signs (fun vs H Q E h => ?_) (fun f cdv A outer s0 H vs Q E hr h => ?_)
  · obtain ⟨l, b, rfl, _⟩ := h
    rfl
  · obtain ⟨l, b, rfl, hl, hc, q⟩ := h
    refine ⟨_, (pss_one (ps_ret (pe_or (pe_and (pe_cmpR op_in_sign pe_str (pv 0) rfl) (pe_one (pe_not (pv 1)))) (pe_one (pe_cmpR (show OpR _ (compareOp .NotEq) (rNeD K) from op_neD hr.units) (pe_callTy (cr_listS rfl) rfl T.b_list bt_list (pa_cons (pv 0) pa_nil)) (pe_callB (S7.cr_sortedS rfl hr.units) rfl T.b_sorted bt_sorted (pa_cons (pe_callTy (S7.cr_setS rfl) rfl T.b_set bt_set (pa_cons (pv 0) pa_nil)) pa_nil)) (nomark _)))))), ?_⟩
    have ll : (tx l).cps.toList = l := by simp
    have tail : ∀ {σ : St} {H' : Hp}, Same H H' → σ = [some (.str (tx l)), some (.bl b)] → (!decide (l = S7.uniq l)) = wS l b →
        tOp (rNeD K) (tCB rListS (tCons (tVar 0) tNil)) (tCB (S7.rSortedS w) (tCons (tCB (S7.rSetS w) (tCons (tVar 0) tNil)) tNil)) σ H' Q := by
      intro σ H' k hσ e
      subst hσ
      walk_at "gx"
      refine ⟨tx l, rfl, by simpa using hl, fun p1 n1 => ?_⟩
      generalize hE1 : upd H' p1 _ = H1; obtain ⟨k1, g1⟩ := updN n1 hE1
      walk_at "gx"
      refine ⟨tx l, rfl, by simpa using hl, fun p2 n2 => ?_⟩
      generalize hE2 : upd H1 p2 _ = H2; obtain ⟨k2, g2⟩ := updN n2 hE2
      walk_at "gx"
      refine ⟨p2, (tx l).cps.toList, rfl, g2, by simpa using hl, fun p3 n3 => ?_⟩
      generalize hE3 : upd H2 p3 _ = H3; obtain ⟨k3, g3⟩ := updN n3 hE3
      rw [ll] at g1 g3
      have c1 : ∀ l' : List Nat, (∀ c ∈ l', c ∈ l) → Shp 1 (.list (sgD l')) := fun l' h' x hx => by
        obtain ⟨c, hc', rfl⟩ := List.mem_map.mp hx
        exact can_sg c (hc c (h' c hc'))
      have g1' : SqL K H3 p1 ((l.map sg).map V.str) := Same.seq k3 (Same.seq k2 (SqL.of g1))
      rw [List.map_map] at g1'
      refine ⟨.list (sgD l), .list (sgD (S7.uniq l)), .lst g1' (dp_map (g := fun c => PyData.str (sg c)) fun x _ => .str _), .lst (SqL.of g3) (dp_map (g := fun c => PyData.str (sg c)) fun x _ => .str _), (c1 _ fun c h => h).shaped (by decide), (c1 _ fun c h => (S7.uniq_mem l c).mp h).shaped (by decide), ?_⟩
      rw [PyData.eqv, eqvAll_sg, e]
      exact q H3 fun b u z => k3 _ _ (k2 _ _ (k1 _ _ (k _ _ z)))
    walk_at "gx"
    refine ⟨126, tx l, rfl, rfl, _, rfl, ?_⟩
    rw [ll]
    by_cases h : 126 ∈ l
    · refine ifT (decide_eq_true h) (w_notV (w_var rfl ⟨b, rfl, _, rfl, ?_⟩))
      cases b with
      | false => exact ifT rfl (by
          have e : wS l false = true := by unfold wS; rw [decide_eq_true h]; rfl
          rw [← e]
          exact q H (Same.refl _))
      | true => exact ifF rfl (tail (Same.refl _) rfl (by unfold wS; simp))
    · exact ifF (decide_eq_false h) ⟨_, rfl, ifF rfl (tail (Same.refl _) rfl (by unfold wS; rw [decide_eq_false h]; rfl))⟩
end
end
section
/-! ### max of a tuple of ints -/
section
open PySem.Spec PyProof.Rows
variable {prog : Program} {w : World} {A : Around} {E : Value → Shared → Prop} {s : Shared} {l : Addr}
theorem max_tup {us : List Value} {ns : List Int} {Q : Value → Shared → Prop} (ht : s.heap.IsTuple l us.toArray) (hi : IntsAre us ns) (hne : ns ≠ []) (hh : A.handled = none)
    (q : ∀ M, M ∈ ns → (∀ a ∈ ns, a ≤ M) → ∀ h' tk t', (∀ b o, s.heap.get? b = some o → h'.get? b = some o) → Q (.int M t') { s with heap := h', toks := tk }) : wpAny (model prog w) A (call (.builtin "max") [.ref l]) Q E s := by
  obtain ⟨xs, e⟩ := hi.allInts.items
  have en : numsOf (intItems xs).toList = ns := e ▸ hi.numsOf
  rw [nums_intItems] at en
  have old : l < s.heap.objs.size := Heap.lt_size ht.choose_spec.1
  have pos : 0 < xs.size := by
    rw [← Array.length_toList]
    exact List.length_pos_iff.mpr fun z => hne (by rw [← en, z]; rfl)
  rw [e] at ht
  refine call_max_walk (wpAny_pyIter_tuple ht ⟨_, _, _, _, _, _, _, rfl, Walks.tuple (A := A.in1) hh _ l (Nat.ne_of_lt old) (intItems xs), ⟨⟨_, Heap.get?_push_size _ rfl, rfl, rfl⟩, ht.push _⟩, fun b hb => ?_, by simpa [intItems] using pos, CmpOf.ints_gt (numAt xs) (fun _ _ => intItems_at), fun v h' tk hP hk => ?_⟩)
  · show b < (s.heap.push _).objs.size
    rw [Heap.size_push]
    rcases List.mem_cons.mp hb with z | z
    · rw [z]
      exact Nat.lt_succ_self _
    · rw [List.mem_singleton.mp z]
      exact Nat.lt_succ_of_lt old
  · obtain ⟨t, rfl⟩ := intItems_at hP
    have sz : (intItems xs).size = xs.size := by simp [intItems]
    rw [sz]
    obtain ⟨h1, h2⟩ := argBest_gt (numAt xs) (xs.size - 1)
    refine q _ ?_ (fun a ha => ?_) h' tk t fun b o g => hk b o (fun m => ?_) (Heap.get?_push_of_some _ g)
    · rw [← en, numAt_eq]
      exact PySem.getD_mem (by rw [List.length_map, Array.length_toList]; omega)
    · rw [← en] at ha
      obtain ⟨j, hj, rfl⟩ := mem_getD ha
      rw [List.length_map, Array.length_toList] at hj
      rw [← numAt_eq]
      exact h2 j (by omega)
    · rw [List.mem_singleton.mp m] at g
      exact Nat.lt_irrefl _ (Heap.lt_size g)
end
def rMaxT (K : PySem.W.Frag) : List V → Hp → VK → Prop := fun vs H Q => ∃ (a : Addr) (ns : List Int), vs = [V.ref a] ∧ SqT K H a (ns.map V.int) ∧ ns ≠ [] ∧ ∀ m, m ∈ ns → (∀ y ∈ ns, y ≤ m) → Q (.int m) H
theorem cr_maxT {X : Cx} (hc : X.calm = true) : CallR X (.builtin "max") (rMaxT X.K) := by
  intro pins s σ H vs us Q I r h
  obtain ⟨a, ns, rfl, ha, ne, q⟩ := h
  obtain ⟨its, rv, pl, _⟩ := I.tuple ha
  rw [Vals.ref1 r]
  exact max_tup pl (S8.ints_of_vals rv) ne (I.ok.hd hc) fun m h1 h2 h' tk t' hk => ⟨.int m, H, I.kept hk, ⟨t', rfl⟩, q m h1 h2⟩
end
section
/-! ### _law_alike: the same data are alike -/
def ShT : Nat → PyData → Prop
  | _, .int _ => True
  | _, .str x => PyData.canLay0 (.str x) = true
  | n + 1, .tuple xs => xs.length ≤ 1000 ∧ ∀ x ∈ xs, ShT n x
  | _, _ => False
section
variable {P : Program} {w : World} {K : PySem.W.Frag} {mg : Str → Option Value} {base : Heap}
def spAl (K : PySem.W.Frag) (n : Nat) : Sp := fun vs H Q _ => ∃ v u D, vs = [v, u] ∧ Dp K H v D ∧ Dp K H u D ∧ ShT n D ∧ ∀ H', Same H H' → Q (.bl true) H'
def spNo : Sp := fun _ _ _ _ => False
abbrev s__law_alike : Stmt := top 47
theorem sc__law_alike : FnScope ["_law_found", "_law_due_here", "_law_k"] ["_law_found", "_law_due_here"] (defScope s__law_alike) := ⟨rfl, rfl, rfl, by decide +kernel, rfl, by decide +kernel, by decide +kernel⟩
theorem al_no (D : DefAt K mg "_law_alike" s__law_alike ["_law_found", "_law_due_here"]) (n : Nat) : DefOk P w K mg base CX0 (n + 1) "_law_alike" spNo :=
  D.ok sc__law_alike (fun vs H Q E h => h.elim) fun fa cdv A outer s0 H vs Q E hr hh => hh.elim
theorem TyX.same' {H H' : Hp} {v : V} {t : String} (k : Same H H') (h : TyX K H v (.type t)) : TyX K H' v (.type t) := by
  cases h with
  | base h =>
    cases h with
    | non => exact .base .non
    | bl b => exact .base (.bl b)
    | int i => exact .base (.int i)
    | str x => exact .base (.str x)
    | flt x => exact .base (.flt x)
    | lst e => exact .base (.lst (k _ _ e))
    | frz e => exact .base (.frz (k _ _ e))
    | tup e => exact .base (.tup (k _ _ e))
    | dK e => exact .base (.dK (k _ _ e))
    | dT e => exact .base (.dT (k _ _ e))
  | byt b => exact .byt b
  | set e => exact .set (k _ _ e)
  | kList e c => exact .kList e c
  | kTuple e c => exact .kTuple e c
  | kDict e c => exact .kDict e c
  | fTuple e => exact .fTuple (k _ _ e)
  | fDict e => exact .fDict (k _ _ e)
theorem w_isi {σ : St} {H : Hp} {Q : VK} {i : Nat} {v : V} {t T : String} {b : Bool} (e : σ[i]? = some (some v)) (ty : TyX K H v (.type t)) (h : kitB t T = some b) (q : Q (.bl b) H) : tCB (rIsi K) (tCons (tVar i) (tCons (tC (.ty T)) tNil)) σ H Q :=
  w_cb (w_cons (w_var e (w_cons (w_c (w_nil ⟨_, _, _, _, _, rfl, .ty _, ty, kit_ty h, q⟩)))))
theorem w_isiT {σ : St} {H : Hp} {Q : VK} {i : Nat} {v : V} {t : String} {a b : Bool} (e : σ[i]? = some (some v)) (ty : TyX K H v (.type t)) (h1 : kitB t "tuple" = some a) (h2 : kitB t "list" = some b) (q : ∀ H', Same H H' → Q (.bl (a || b)) H') :
    tCB (rIsiT K) (tCons (tVar i) (tCons (tTup (tCons (tC (.ty "tuple")) (tCons (tC (.ty "list")) tNil))) tNil)) σ H Q := by
  refine w_cb (w_cons (w_var e (w_cons (w_tup (w_cons (w_c (w_cons (w_c (w_nil ⟨small (by simp), fun p n => ?_⟩)))))))))
  generalize hE : upd H p _ = H1; obtain ⟨k1, g1⟩ := updN n hE
  refine w_nil ⟨v, p, _, .type t, [.type "tuple", .type "list"], a || b, rfl, g1, .cons (.ty _) (.cons (.ty _) .nil), TyX.same' k1 ty, ?_, q H1 k1⟩
  refine kitAny_cons (kit_ty h1) (fun e => ?_) fun e => by rw [e]; rfl
  rw [e]
  refine kitAny_cons (kit_ty h2) (fun e => ?_) fun e => by rw [e]; rfl
  rw [e]
  rfl
theorem dpAll_len {H : Hp} : ∀ {vs : List V} {ds : List PyData}, DpAll K H vs ds → vs.length = ds.length
  | _, _, .nil => rfl
  | _, _, .cons _ h => congrArg (· + 1) (dpAll_len h)
theorem dpAll_get {H : Hp} : ∀ {vs : List V} {ds : List PyData} {i : Nat} {d : PyData}, DpAll K H vs ds → ds[i]? = some d → ∃ v, vs[i]? = some v ∧ Dp K H v d
  | _, _, 0, _, .cons h _, e => ⟨_, rfl, by cases e; exact h⟩
  | _, _, i + 1, _, .cons _ h, e => dpAll_get (i := i) h e
theorem at_nat {α : Type} {l : List α} {i : Nat} {v : α} (h : l[i]? = some v) : atI l (i : Int) = some v := by
  have hl := (List.getElem?_eq_some_iff.mp h).1
  unfold atI
  rw [ixN_of (by omega) (by omega)]
  exact h
theorem al_step (D : DefAt K mg "_law_alike" s__law_alike ["_law_found", "_law_due_here"]) (T : Txt K mg) (n : Nat) (sp : Sp) (D__law_alike : DefOk P w K mg base CX0 n "_law_alike" sp) (m : Nat) (hsp : ∀ d, m = d + 1 → sp = spAl K d) : DefOk P w K mg base CX0 (n + 1) "_law_alike" (spAl K m) := by
  refine D.ok sc__law_alike (fun vs H Q E h => ?_) (fun f cdv A outer s0 H vs Q E hr h => ?_)
  · obtain ⟨v, u, D, rfl, _⟩ := h
    rfl
  · obtain ⟨v, u, D, rfl, hv, hu', sh, q⟩ := h
    refine ⟨_, (pss_cons (ps_if (pt_val (pe_callB (show CallR _ _ (rIsi K) from call_isi) rfl T.b_isinstance bt_isinstance (pa_cons (pv 1) (pa_cons (pe_bltn (v := .ty "dict") (u := .type "dict") rfl T.b_dict bt_dict rfl) pa_nil)))) (pss_one (ps_ret (pe_and (pe_callB (show CallR _ _ (rIsi K) from call_isi) rfl T.b_isinstance bt_isinstance (pa_cons (pv 0) (pa_cons (pe_bltn (v := .ty "dict") (u := .type "dict") rfl T.b_dict bt_dict rfl) pa_nil))) (pe_and (pe_c D__law_alike hr pass0 (pa_cons (pe_callB (S8.cr_sortI rfl) rfl T.b_sorted bt_sorted (pa_cons (pv 0) pa_nil)) (pa_cons (pe_callB (S8.cr_sortI rfl) rfl T.b_sorted bt_sorted (pa_cons (pv 1) pa_nil)) pa_nil))) (pe_one (pe_cmpR (show OpR _ (compareOp .Eq) (rEqD K) from op_eqD hr.units) (pv 0) (pv 1) (nomark _))))))) pss_nil) (pss_cons (ps_if (pt_val (pe_callB (show CallR _ _ (rIsiT K) from call_isiT) rfl T.b_isinstance bt_isinstance (pa_cons (pv 1) (pa_cons (pe_tup (pa_cons (pe_bltn (v := .ty "tuple") (u := .type "tuple") rfl T.b_tuple bt_tuple rfl) (pa_cons (pe_bltn (v := .ty "list") (u := .type "list") rfl T.b_list bt_list rfl) pa_nil))) pa_nil)))) (pss_cons (ps_if (PW.pt (pw_or (pt_not (pt_val (pe_callB (show CallR _ _ (rIsiT K) from call_isiT) rfl T.b_isinstance bt_isinstance (pa_cons (pv 0) (pa_cons (pe_tup (pa_cons (pe_bltn (v := .ty "tuple") (u := .type "tuple") rfl T.b_tuple bt_tuple rfl) (pa_cons (pe_bltn (v := .ty "list") (u := .type "list") rfl T.b_list bt_list rfl) pa_nil))) pa_nil))))) (pw_or1 (pt_cmpR op_ne (pe_callB (show CallR _ _ (rIsi K) from call_isi) rfl T.b_isinstance bt_isinstance (pa_cons (pv 0) (pa_cons (pe_bltn (v := .ty "list") (u := .type "list") rfl T.b_list bt_list rfl) pa_nil))) (pe_callB (show CallR _ _ (rIsi K) from call_isi) rfl T.b_isinstance bt_isinstance (pa_cons (pv 1) (pa_cons (pe_bltn (v := .ty "list") (u := .type "list") rfl T.b_list bt_list rfl) pa_nil))) (nomark _))))) (pss_one (ps_ret pe_bl)) pss_nil) (pss_cons (ps_if (pt_cmpR op_ne (pe_callB (show CallR _ _ (rLen K) from call_lenK) rfl T.b_len bt_len (pa_cons (pv 0) pa_nil)) (pe_callB (show CallR _ _ (rLen K) from call_lenK) rfl T.b_len bt_len (pa_cons (pv 1) pa_nil)) (nomark _)) (pss_one (ps_ret pe_bl)) pss_nil) (pss_one (ps_ret (pe_cmpR (show OpR _ (compareOp .Eq) (rEqD K) from op_eqD hr.units) (pe_lc (own := [("_law_k", 2)]) rfl sc__law_alike.nd (pi_range1 rfl T.b_range (pa_cons (pe_callB (show CallR _ _ (rLen K) from call_lenK) rfl T.b_len bt_len (pa_cons (pv 1) pa_nil)) pa_nil)) (blkOk_by (own := [("_law_k", 2)]) (N := ["_law_found", "_law_due_here", "_law_k"]) (sc := defScope s__law_alike) (by decide +kernel)) (fun _ _ _ _ _ => (pg_name (i := 2) sc__law_alike.nd rfl (by first | exact Or.inl rfl | exact Or.inr rfl))) (fun _ _ _ _ _ => pts_one (pt_not (pt_val (pe_c D__law_alike hr pass0 (pa_cons (pe_ix (show IxR _ (rIxT K) from ix_tup) (pv 0) (pv 2) (fun _ _ => rfl)) (pa_cons (pe_ix (show IxR _ (rIxT K) from ix_tup) (pv 1) (pv 2) (fun _ _ => rfl)) pa_nil)))))) (fun _ _ _ _ _ => (pv 2))) (pe_lst pa_nil) (nomark _)))))) pss_nil) (pss_cons (ps_if (PW.pt (pw_or (pt_cmpR op_isN (pv 1) pe_non (nomark _)) (pw_or1 (pt_val (pe_callB (show CallR _ _ (rIsi K) from call_isi) rfl T.b_isinstance bt_isinstance (pa_cons (pv 1) (pa_cons (pe_bltn (v := .ty "str") (u := .type "str") rfl T.b_str bt_str rfl) pa_nil))))))) (pss_one (ps_ret (pe_and (pe_cmpR (show OpR _ (compareOp .Eq) (rEqD K) from op_eqD hr.units) (pv 0) (pv 1) (nomark _)) (pe_one (pe_cmpR op_eq (pe_callB (show CallR _ _ (rIsi K) from call_isi) rfl T.b_isinstance bt_isinstance (pa_cons (pv 0) (pa_cons (pe_bltn (v := .ty "str") (u := .type "str") rfl T.b_str bt_str rfl) pa_nil))) (pe_callB (show CallR _ _ (rIsi K) from call_isi) rfl T.b_isinstance bt_isinstance (pa_cons (pv 1) (pa_cons (pe_bltn (v := .ty "str") (u := .type "str") rfl T.b_str bt_str rfl) pa_nil))) (nomark _)))))) pss_nil) (pss_one (ps_ret (pe_and (pe_callB (show CallR _ _ (rIsi K) from call_isi) rfl T.b_isinstance bt_isinstance (pa_cons (pv 0) (pa_cons (pe_bltn (v := .ty "int") (u := .type "int") rfl T.b_int bt_int rfl) pa_nil))) (pe_and (pe_cmpR op_eq (pe_callB (show CallR _ _ (rIsi K) from call_isi) rfl T.b_isinstance bt_isinstance (pa_cons (pv 0) (pa_cons (pe_bltn (v := .ty "bool") (u := .type "bool") rfl T.b_bool bt_bool rfl) pa_nil))) (pe_callB (show CallR _ _ (rIsi K) from call_isi) rfl T.b_isinstance bt_isinstance (pa_cons (pv 1) (pa_cons (pe_bltn (v := .ty "bool") (u := .type "bool") rfl T.b_bool bt_bool rfl) pa_nil))) (nomark _)) (pe_one (pe_cmpR (show OpR _ (compareOp .Eq) (rEqD K) from op_eqD hr.units) (pv 0) (pv 1) (nomark _)))))))))), ?_⟩
    walk_at "g1"
    walk_at "g1"
    walk_at "g1"
    have leaf : (∃ i, D = .int i) ∨ (∃ x, D = .str x ∧ PyData.canLay0 (.str x) = true) ∨ ∃ d xs, m = d + 1 ∧ D = .tuple xs ∧ xs.length ≤ 1000 ∧ ∀ x ∈ xs, ShT d x := by
      cases D with
      | int i => exact .inl ⟨i, rfl⟩
      | str x => exact .inr (.inl ⟨x, rfl, by cases m <;> exact sh⟩)
      | tuple xs =>
        cases m with
        | zero => exact sh.elim
        | succ d => exact .inr (.inr ⟨d, xs, rfl, rfl, sh.1, sh.2⟩)
      | _ => cases m <;> exact sh.elim
    rcases leaf with ⟨i, rfl⟩ | ⟨x, rfl, hx⟩ | ⟨d, xs, rfl, rfl, hl, hx⟩
    · cases hv
      cases hu'
      have ty : ∀ H', TyX K H' (.int i) (.type "int") := fun _ => .base (.int i)
      refine w_isi rfl (ty _) (by decide +kernel) ⟨_, rfl, ifF rfl ?_⟩
      iterate 4 walk_at "g1"
      refine w_isiT (a := false) (b := false) rfl (ty _) (by decide +kernel) (by decide +kernel) fun H1 k1 => ⟨_, rfl, ifF rfl ?_⟩
      walk_at "gx"
      refine ⟨rfl, _, rfl, ifF rfl ?_⟩
      refine w_tB (w_isi rfl (ty _) (by decide +kernel) ⟨_, rfl, ifF rfl ?_⟩)
      iterate 2 walk_at "g1"
      refine w_andV (w_isi rfl (ty _) (by decide +kernel) ⟨_, rfl, ifT rfl ?_⟩)
      refine w_andV (w_op (w_isi (b := false) rfl (ty _) (by decide +kernel) (w_isi (b := false) rfl (ty _) (by decide +kernel) (w_eq rfl ⟨_, rfl, ifT rfl ?_⟩))))
      refine w_op (w_var rfl (w_var rfl ⟨.int i, .int i, .int i, .int i, Shp.shaped (n := 1) True.intro (by decide), Shp.shaped (n := 1) True.intro (by decide), ?_⟩))
      rw [PyData.eqv, beq_self_eq_true]
      exact q H1 k1
    · cases hv
      cases hu'
      have ty : ∀ H', TyX K H' (.str x) (.type "str") := fun _ => .base (.str x)
      refine w_isi rfl (ty _) (by decide +kernel) ⟨_, rfl, ifF rfl ?_⟩
      iterate 4 walk_at "g1"
      refine w_isiT (a := false) (b := false) rfl (ty _) (by decide +kernel) (by decide +kernel) fun H1 k1 => ⟨_, rfl, ifF rfl ?_⟩
      walk_at "gx"
      refine ⟨rfl, _, rfl, ifF rfl ?_⟩
      refine w_tB (w_isi rfl (ty _) (by decide +kernel) ⟨_, rfl, ifT rfl ?_⟩)
      iterate 1 walk_at "g1"
      refine w_andV (w_op (w_var rfl (w_var rfl ⟨.str x, .str x, .str x, .str x, Shp.shaped (n := 1) hx (by decide), Shp.shaped (n := 1) hx (by decide), ?_⟩)))
      rw [PyData.eqv, beq_self_eq_true]
      refine ⟨_, rfl, ifT rfl (w_op (w_isi (b := true) rfl (ty _) (by decide +kernel) (w_isi (b := true) rfl (ty _) (by decide +kernel) (w_eq rfl ?_))))⟩
      exact q H1 k1
    · have e := hsp d rfl
      subst e
      cases hv with
      | tup hp1 ha1 =>
      cases hu' with
      | tup hp2 ha2 =>
      rename_i p1 vs1 p2 vs2
      have l1 := dpAll_len ha1
      have l2 := dpAll_len ha2
      refine w_isi rfl (tyT hp2) (by decide +kernel) ⟨_, rfl, ifF rfl ?_⟩
      iterate 4 walk_at "g1"
      refine w_isiT (a := true) (b := false) rfl (tyT hp2) (by decide +kernel) (by decide +kernel) fun H1 k1 => ⟨_, rfl, ifT rfl ?_⟩
      iterate 5 walk_at "g1"
      have a1 := Same.seqT k1 hp1
      have a2 := Same.seqT k1 hp2
      refine w_isiT (a := true) (b := false) rfl (tyT a1) (by decide +kernel) (by decide +kernel) fun H2 k2 => ⟨_, rfl, ifF rfl ?_⟩
      have b1 := Same.seqT k2 a1
      have b2 := Same.seqT k2 a2
      clear a1 a2
      refine w_test (w_op (w_isi (b := false) rfl (tyT b1) (by decide +kernel) (w_isi (b := false) rfl (tyT b2) (by decide +kernel) (w_ne rfl ⟨_, rfl, ifF rfl ?_⟩))))
      iterate 3 walk_at "g1"
      refine w_test (w_op (w_cb (w_cons (w_var rfl (w_nil (w_lenT b1 (w_cb (w_cons (w_var rfl (w_nil (w_lenT b2 (w_ne rfl ⟨_, rfl, ifF ?_ ?_⟩))))))))))))
      · rw [l1, l2]
        simp
      iterate 4 walk_at "g1"
      refine w_cb (w_cons (w_var rfl (w_nil (w_lenT b2 (w_nil ⟨_, rfl, ?_⟩)))))
      refine lc_rng (n := xs.length) (by rw [l2]) (by omega) (fun i D H' => H2 D = none ∧ H' D = some (.lst []) ∧ Same H2 H') (fun D hD => ⟨hD, upd_same, Same.updD (Same.refl _) hD⟩) ?_ ?_
      · rintro i D H3 hi ⟨hD, gD, k3⟩
        have hd := List.getElem?_eq_getElem hi
        obtain ⟨v1, e1, dp1⟩ := dpAll_get ha1 hd
        obtain ⟨v2, e2, dp2⟩ := dpAll_get ha2 hd
        have s3 : Same H H3 := fun b u e => k3 _ _ (k2 _ _ (k1 _ _ e))
        walk_at "g1"
        refine ⟨rfl, ?_⟩
        have c1 := Same.seqT k3 b1
        have c2 := Same.seqT k3 b2
        iterate 7 walk_at "g1"
        refine w_ixT c1 (at_nat e1) ?_
        iterate 4 walk_at "g1"
        refine w_ixT c2 (at_nat e2) ?_
        refine w_nil ?_
        refine ⟨v1, v2, xs[i], rfl, Dp.same s3 dp1, Dp.same s3 dp2, hx _ (List.getElem_mem hi), fun H4 k4 => ⟨_, rfl, ifF rfl ?_⟩⟩
        exact ⟨hD, k4 _ _ gD, fun b u e => k4 _ _ (k3 _ _ e)⟩
      · rintro D H3 ⟨hD, gD, k3⟩
        walk_at "gx"
        refine ⟨small (by simp), fun p5 n5 => ?_⟩
        generalize hE5 : upd H3 p5 _ = H5; obtain ⟨k5, g5⟩ := updN n5 hE5
        refine w_eqNil (ds := []) (.lst (SqL.of (k5 _ _ gD)) .nil) g5 (n := 1) (fun x hx => nomatch hx) (by decide) ?_
        exact q H5 fun b u e => k5 _ _ (k3 _ _ (k2 _ _ (k1 _ _ e)))
theorem ok_alike (D : DefAt K mg "_law_alike" s__law_alike ["_law_found", "_law_due_here"]) (T : Txt K mg) : ∀ m, DefOk P w K mg base CX0 (m + 2) "_law_alike" (spAl K m)
  | 0 => al_step D T 1 spNo (al_no D 0) 0 fun d e => nomatch e
  | m + 1 => al_step D T (m + 2) (spAl K m) (ok_alike D T m) (m + 1) fun d e => by rw [Nat.succ.inj e]
end
end
section
/-! ### what a code can be read as -/
inductive InF
  | turn (ts : List Int) | walk (a b : Int) | til (t : Bool) (l : List Nat) | beside (n : Int) (l : List Nat) | near (l : List Nat) (n : Int) | shore (a b c : Int)
def InF.ins : InF → Ins
  | .turn ts => (0, [.N ts]) | .walk a b => (1, [.n a, .n b]) | .til true l => (2, [.s l]) | .til false l => (3, [.s l]) | .beside n l => (4, [.n n, .s l]) | .near l n => (5, [.s l, .n n]) | .shore a b c => (6, [.n a, .n b, .n c])
def SgsOk (l : List Nat) : Prop := 1 ≤ l.length ∧ l.length ≤ 28 ∧ ∀ c ∈ l, c ∈ abcL
def TnsOk (l : List Int) : Prop := 1 ≤ l.length ∧ l.length ≤ 4 ∧ ∀ t ∈ l, 0 ≤ t ∧ t ≤ 3
def NumOk (n : Int) : Prop := 0 ≤ n ∧ n ≤ 99
def InF.Ok : InF → Prop
  | .turn ts => TnsOk ts | .walk a b => NumOk a ∧ NumOk b | .til _ l => SgsOk l | .beside n l => NumOk n ∧ SgsOk l | .near l n => SgsOk l ∧ NumOk n | .shore a b c => NumOk a ∧ NumOk b ∧ NumOk c
def InsOk (i : Ins) : Prop := ∃ f : InF, i = f.ins ∧ f.Ok
structure MapOk (m : MapD) : Prop where
  h1 : 1 ≤ m.rows.length
  h12 : m.rows.length ≤ 12
  w : ∃ w, 1 ≤ w ∧ w ≤ 12 ∧ ∀ r ∈ m.rows, r.length = w
  ch : ∀ r ∈ m.rows, ∀ c ∈ r, c ∈ abcL
  z : SgsOk m.z
  fs : TnsOk m.fs
  n20 : m.is.length ≤ 20
  is : ∀ i ∈ m.is, InsOk i
def Post {α : Type} (p : Pr α) (F : α → Prop) : Prop := ∀ o x o', p o = .ok (x, o') → F x
theorem post_take {vals : List V} {lo hi : Int} : Post (pTake vals lo hi) fun i => lo ≤ i ∧ i ≤ hi := fun o x o' h => by
  unfold pTake at h
  split at h
  · split at h
    · rename_i z
      cases h
      exact z
    · cases h
  · cases h
theorem post_pure {α : Type} {x : α} {F : α → Prop} (h : F x) : Post (Pr.pure x) F := fun o y o' e => by
  cases e
  exact h
theorem post_bind {α β : Type} {p : Pr α} {f : α → Pr β} {F : α → Prop} {G : β → Prop} (h1 : Post p F) (h2 : ∀ x, F x → Post (f x) G) : Post (Pr.bind p f) G := fun o y o' h => by
  unfold Pr.bind at h
  split at h
  · rename_i x o1 e
    exact h2 x (h1 o x o1 e) o1 y o' h
  · cases h
theorem post_rep {α : Type} {p : Pr α} {F : α → Prop} (h : Post p F) : ∀ n, Post (Pr.rep p n) fun l => l.length = n ∧ ∀ x ∈ l, F x
  | 0 => post_pure ⟨rfl, fun x hx => nomatch hx⟩
  | n + 1 => post_bind (post_rep h n) fun l ⟨e, a⟩ => post_bind h fun x hx => post_pure ⟨by rw [List.length_append, e]; rfl, fun y hy => (List.mem_append.mp hy).elim (a y) fun z => by rw [List.mem_singleton.mp z]; exact hx⟩
theorem post_mono {α : Type} {p : Pr α} {F G : α → Prop} (h : Post p F) (k : ∀ x, F x → G x) : Post p G := fun o x o' e => k x (h o x o' e)
theorem sgn_in {i : Int} (h0 : 0 ≤ i) (h1 : i ≤ 27) : sgn i ∈ abcL := by
  have hl : i.toNat < abcL.length := by show i.toNat < 28; omega
  unfold sgn
  rw [List.getElem?_eq_getElem hl]
  exact List.getElem_mem hl
section
variable {vals : List V}
theorem post_sign : Post (pSign vals) fun c => c ∈ abcL := post_bind post_take fun i h => post_pure (sgn_in h.1 h.2)
theorem post_signs : Post (pSigns vals) SgsOk := post_bind post_take fun n h => post_mono (post_rep post_sign _) fun l e => ⟨by omega, by omega, e.2⟩
theorem post_turns : Post (pTurns vals) TnsOk := post_bind post_take fun n h => post_mono (post_rep post_take _) fun l e => ⟨by omega, by omega, e.2⟩
theorem part_n : Post (pPart vals 110) fun p => ∃ i, p = .n i ∧ NumOk i := post_bind post_take fun i h => post_pure ⟨i, rfl, h⟩
theorem part_N : Post (pPart vals 78) fun p => ∃ l, p = .N l ∧ TnsOk l := post_bind post_turns fun l h => post_pure ⟨l, rfl, h⟩
theorem part_s {c : Nat} (h1 : c ≠ 110) (h2 : c ≠ 78) : Post (pPart vals c) fun p => ∃ l, p = .s l ∧ SgsOk l := by
  unfold pPart
  rw [if_neg h1, if_neg h2]
  exact post_bind post_signs fun l h => post_pure ⟨l, rfl, h⟩
theorem upto1 {α : Type} {ps : Nat → Pr α} {A : α → Prop} (h : Post (ps 0) A) : Post (Pr.upto ps 1) fun l => ∃ a, l = [a] ∧ A a :=
  post_bind (F := fun l => l = []) (post_pure rfl) fun l e => post_bind h fun a ha => post_pure ⟨a, by rw [e]; rfl, ha⟩
theorem upto2 {α : Type} {ps : Nat → Pr α} {A B : α → Prop} (h : Post (ps 0) A) (k : Post (ps 1) B) : Post (Pr.upto ps 2) fun l => ∃ a b, l = [a, b] ∧ A a ∧ B b :=
  post_bind (upto1 h) fun l ⟨a, e, ha⟩ => post_bind k fun b hb => post_pure ⟨a, b, by rw [e]; rfl, ha, hb⟩
theorem upto3 {α : Type} {ps : Nat → Pr α} {A B C : α → Prop} (h : Post (ps 0) A) (k : Post (ps 1) B) (m : Post (ps 2) C) : Post (Pr.upto ps 3) fun l => ∃ a b c, l = [a, b, c] ∧ A a ∧ B b ∧ C c :=
  post_bind (upto2 h k) fun l ⟨a, b, e, ha, hb⟩ => post_bind m fun c hc => post_pure ⟨a, b, c, by rw [e]; rfl, ha, hb, hc⟩
theorem post_ins : Post (pIns vals) InsOk := post_bind post_take fun k ⟨k0, k6⟩ => by
  have h7 : k = 0 ∨ k = 1 ∨ k = 2 ∨ k = 3 ∨ k = 4 ∨ k = 5 ∨ k = 6 := by omega
  rcases h7 with rfl | rfl | rfl | rfl | rfl | rfl | rfl
  · exact post_bind (upto1 part_N) fun ps ⟨a, e, l, e2, h⟩ => post_pure ⟨.turn l, by rw [e, e2]; rfl, h⟩
  · exact post_bind (upto2 part_n part_n) fun ps ⟨a, b, e, ⟨i, e2, h⟩, j, e3, h3⟩ => post_pure ⟨.walk i j, by rw [e, e2, e3]; rfl, h, h3⟩
  · exact post_bind (upto1 (part_s (by decide) (by decide))) fun ps ⟨a, e, l, e2, h⟩ => post_pure ⟨.til true l, by rw [e, e2]; rfl, h⟩
  · exact post_bind (upto1 (part_s (by decide) (by decide))) fun ps ⟨a, e, l, e2, h⟩ => post_pure ⟨.til false l, by rw [e, e2]; rfl, h⟩
  · exact post_bind (upto2 part_n (part_s (by decide) (by decide))) fun ps ⟨a, b, e, ⟨i, e2, h⟩, l, e3, h3⟩ => post_pure ⟨.beside i l, by rw [e, e2, e3]; rfl, h, h3⟩
  · exact post_bind (upto2 (part_s (by decide) (by decide)) part_n) fun ps ⟨a, b, e, ⟨l, e2, h⟩, i, e3, h3⟩ => post_pure ⟨.near l i, by rw [e, e2, e3]; rfl, h, h3⟩
  · exact post_bind (upto3 part_n part_n part_n) fun ps ⟨a, b, c, e, ⟨i, e2, h⟩, ⟨j, e3, h3⟩, k, e4, h4⟩ => post_pure ⟨.shore i j k, by rw [e, e2, e3, e4]; rfl, h, h3, h4⟩
theorem post_map : Post (pMap vals) MapOk := post_bind post_take fun _ _ => post_bind post_take fun h hh => post_bind post_take fun wd hw => post_bind (post_rep (post_rep post_sign _) _) fun rows er => post_bind post_signs fun z hz => post_bind post_turns fun fs hf =>
  post_bind post_take fun n hn => post_bind (post_rep post_ins _) fun is ei => post_pure ⟨by show 1 ≤ rows.length; omega, by show rows.length ≤ 12; omega, ⟨wd.toNat, by omega, by omega, fun r hr => (er.2 r hr).1⟩, fun r hr => (er.2 r hr).2, hz, hf, by show is.length ≤ 20; omega, ei.2⟩
theorem codeOf_ok {m : MapD} (h : codeOf vals = .ok m) : MapOk m := by
  unfold codeOf at h
  split at h
  · cases h
  · rename_i m' o e
    split at h
    · cases h
    · split at h
      · cases h
      · cases h
        exact post_map 0 _ _ e
end
end
section
/-! ### the first instruction with a wrong number -/
def good : InF → Bool
  | .turn ts => decide (ts.Pairwise (· < ·)) | .walk a b => decide (a ≤ b ∧ b ≤ 20) | .til _ _ => true | .beside n _ => decide (n ≤ 3) | .near _ n => decide (n ≤ 22) | .shore a b c => decide (b ≤ c ∧ c ≤ 20 ∧ (a = 1 ∨ a = 3))
/-- the first place where g does not hold -/
def firstNot {α : Type} (g : α → Bool) : List α → Option Nat
  | [] => none
  | x :: r => if g x = true then (firstNot g r).map (· + 1) else some 0
theorem pw_of_adj : ∀ {l : List Int}, (∀ (m : Nat) (a b : Int), l[m]? = some a → l[m + 1]? = some b → a < b) → l.Pairwise (· < ·)
  | [], _ => .nil
  | [x], _ => List.pairwise_singleton _ _
  | x :: y :: r, h => by
    have ih := pw_of_adj (l := y :: r) fun m a b h1 h2 => h (m + 1) a b h1 h2
    have xy := h 0 x y rfl rfl
    refine List.pairwise_cons.mpr ⟨fun z hz => ?_, ih⟩
    rcases List.mem_cons.mp hz with e | e
    · rw [e]; exact xy
    · exact Int.lt_trans xy ((List.pairwise_cons.mp ih).1 z e)
theorem adj_of_pw {l : List Int} (h : l.Pairwise (· < ·)) {m : Nat} {a b : Int} (h1 : l[m]? = some a) (h2 : l[m + 1]? = some b) : a < b := by
  obtain ⟨l1, rfl⟩ := List.getElem?_eq_some_iff.mp h1
  obtain ⟨l2, rfl⟩ := List.getElem?_eq_some_iff.mp h2
  exact List.pairwise_iff_getElem.mp h m (m + 1) l1 l2 (Nat.lt_succ_self m)
theorem lc_rng2 {σ : St} {H : Hp} {te : TE} {g : TG} {tt : TT} {vs : List Nat} {Q : VK} {i0 j : Int} (hb : -(2 ^ 62) ≤ i0 ∧ i0 < 2 ^ 62 ∧ -(2 ^ 62) ≤ j ∧ j < 2 ^ 62) (Pv : Nat → Addr → Hp → Prop) (h0 : ∀ D, H D = none → Pv 0 D (upd H D (.lst [])))
    (ht : ∀ i D H0, i < (j - i0).toNat → Pv i D H0 → g (.int (i0 + (i : Int))) (wipe σ vs) H0 fun σ2 H2 => wipe σ2 vs = wipe σ vs ∧ tt σ2 H2 fun b H3 =>
      if b = true then te σ2 H3 fun y H4 => ∃ acc, H4 D = some (.lst acc) ∧ acc.length < sizeLine ∧ Pv (i + 1) D (upd H4 D (.lst (acc ++ [y]))) else Pv (i + 1) D H3)
    (hd : ∀ D H, Pv (j - i0).toNat D H → Q (.ref D) H) : (-(2 ^ 62) ≤ i0 ∧ i0 < 2 ^ 62 ∧ -(2 ^ 62) ≤ j ∧ j < 2 ^ 62) ∧ CompOk (Itr i0 (j - i0).toNat) g tt te vs σ Q H := by
  refine ⟨hb, lc_of (n := (j - i0).toNat) Pv h0 (fun D H p => Nat.le_refl _) (fun i D H hi p => hi) (fun i D H0 x H' hi p y => ?_) hd⟩
  obtain ⟨e1, e2⟩ := y
  subst e1 e2
  exact ht i D _ hi p
def FAt (K : PySem.W.Frag) (H : Hp) (a : Addr) : InF → Prop
  | .turn ts => ∃ t, SqT K H a [.str "turn", .ref t] ∧ SqT K H t (ts.map V.int)
  | .walk x y => SqT K H a [.str "walk", .int x, .int y]
  | .til t l => SqT K H a [.str (if t then "until" else "toward"), .str (tx l)]
  | .beside n l => SqT K H a [.str "beside", .int n, .str (tx l)]
  | .near l n => SqT K H a [.str "near", .str (tx l), .int n]
  | .shore x y z => SqT K H a [.str "shore", .int x, .int y, .int z]
theorem FAt.of {K : PySem.W.Frag} {H : Hp} {a : Addr} {f : InF} (h : InsAt K H a f.ins) : FAt K H a f := by
  obtain ⟨vs, g, p⟩ := h
  cases f with
  | turn ts =>
    cases p with
    | cons r p =>
      cases p
      obtain ⟨t, rfl, gt⟩ := r
      exact ⟨t, g, gt⟩
  | walk x y =>
    cases p with
    | cons r p =>
      cases p with
      | cons r2 p =>
        cases p
        cases (show _ = _ from r)
        cases (show _ = _ from r2)
        exact g
  | til t l =>
    cases t with
    | true =>
      cases p with
      | cons r p =>
        cases p
        cases (show _ = _ from r)
        exact g
    | false =>
      cases p with
      | cons r p =>
        cases p
        cases (show _ = _ from r)
        exact g
  | beside x y =>
    cases p with
    | cons r p =>
      cases p with
      | cons r2 p =>
        cases p
        cases (show _ = _ from r)
        cases (show _ = _ from r2)
        exact g
  | near x y =>
    cases p with
    | cons r p =>
      cases p with
      | cons r2 p =>
        cases p
        cases (show _ = _ from r)
        cases (show _ = _ from r2)
        exact g
  | shore x y z =>
    cases p with
    | cons r p =>
      cases p with
      | cons r2 p =>
        cases p with
        | cons r3 p =>
          cases p
          cases (show _ = _ from r)
          cases (show _ = _ from r2)
          cases (show _ = _ from r3)
          exact g
def fw : InF → Str
  | .turn _ => "turn" | .walk _ _ => "walk" | .til t _ => if t then "until" else "toward" | .beside _ _ => "beside" | .near _ _ => "near" | .shore _ _ _ => "shore"
def FPs (K : PySem.W.Frag) (H : Hp) (ps : List V) : InF → Prop
  | .turn ts => ∃ t, ps = [.ref t] ∧ SqT K H t (ts.map V.int)
  | .walk x y => ps = [.int x, .int y]
  | .til _ l => ps = [.str (tx l)]
  | .beside n l => ps = [.int n, .str (tx l)]
  | .near l n => ps = [.str (tx l), .int n]
  | .shore x y z => ps = [.int x, .int y, .int z]
theorem FAt.head {K : PySem.W.Frag} {H : Hp} {a : Addr} {f : InF} (h : FAt K H a f) : ∃ ps, SqT K H a (.str (fw f) :: ps) ∧ FPs K H ps f := by
  cases f with
  | turn ts => obtain ⟨t, h1, h2⟩ := h; exact ⟨_, h1, t, rfl, h2⟩
  | _ => exact ⟨_, h, rfl⟩
theorem FPs.same {K : PySem.W.Frag} {H H' : Hp} {ps : List V} {f : InF} (s : Same H H') (h : FPs K H ps f) : FPs K H' ps f := by
  cases f with
  | turn ts => obtain ⟨t, h1, h2⟩ := h; exact ⟨t, h1, Same.seqT s h2⟩
  | _ => exact h
theorem FAt.same {K : PySem.W.Frag} {H H' : Hp} {a : Addr} {f : InF} (s : Same H H') (h : FAt K H a f) : FAt K H' a f := by
  cases f with
  | turn ts => obtain ⟨t, h1, h2⟩ := h; exact ⟨t, Same.seqT s h1, Same.seqT s h2⟩
  | _ => exact Same.seqT s h
theorem firstNot_none {α : Type} {g : α → Bool} : ∀ {l : List α}, (∀ x ∈ l, g x = true) → firstNot g l = none
  | [], _ => rfl
  | x :: r, h => by
    unfold firstNot
    rw [if_pos (h x List.mem_cons_self), firstNot_none fun y hy => h y (List.mem_cons_of_mem _ hy)]
    rfl
theorem firstNot_at {α : Type} {g : α → Bool} : ∀ {l : List α} {i : Nat} {x : α}, l[i]? = some x → g x = false → (∀ (j : Nat) (y : α), j < i → l[j]? = some y → g y = true) → firstNot g l = some i
  | y :: r, 0, x, e, h, _ => by
    cases e
    unfold firstNot
    rw [h]
    rfl
  | y :: r, i + 1, x, e, h, k => by
    unfold firstNot
    rw [if_pos (k 0 y (Nat.succ_pos i) rfl), firstNot_at (l := r) (i := i) e h fun j z hj hz => k (j + 1) z (Nat.succ_lt_succ hj) hz]
    rfl
section
variable {P : Program} {w : World} {K : PySem.W.Frag} {mg : Str → Option Value} {base : Heap}
def wiV (fs : List Int) (is : List InF) : V := if fs.Pairwise (· < ·) then (match firstNot good is with | none => .non | some k => .int k) else .int (-1)
theorem wi_tail {D : Ends} {σ : St} {H : Hp} {i : Nat} {g : Bool} (e1 : σ[1]? = some (some (.int i))) (e4 : σ[4]? = some (some (.bl g))) (hi : i < 20) (qt : g = true → D.nx σ H) (qf : g = false → D.rt (.int i) H) :
    tIfS (tOr (tNot (tB (tVar 4))) (tTest (tOp rEq (tVar 1) (tC (.int 20))))) (tRet (tVar 1)) tNext D σ H := by
  refine w_ifS (w_or (w_not (w_tB (w_var e4 ⟨g, rfl, ?_⟩))))
  cases g with
  | true =>
    refine ifF rfl (w_test (w_op (w_var e1 (w_c (w_eq rfl ⟨_, rfl, ifF (decide_eq_false fun z => ?_) (w_next (qt rfl))⟩)))))
    injection z with z
    omega
  | false => exact ifT rfl (ifT rfl (w_ret (w_var e1 (qf rfl))))
theorem wi_end {D : Ends} {σ : St} {H : Hp} {i : Nat} {g : Bool} {wd : Str} (e1 : σ[1]? = some (some (.int i))) (e2 : σ[2]? = some (some (.str wd))) (e4 : σ[4]? = some (some (.bl g))) (n1 : wd ≠ "beside") (n2 : wd ≠ "near") (hi : i < 20) (qt : g = true → D.nx σ H) (qf : g = false → D.rt (.int i) H) :
    tSeq (tIfS (tOr (tAnd (tTest (tOp rEq (tVar 2) (tC (.str "beside")))) (tTest (tOp (rI0 fun i j => V.bl (decide (j < i))) (tOp (rIxT K) (tVar 3) (tC (.int 0))) (tC (.int 3)))))
      (tAnd (tTest (tOp rEq (tVar 2) (tC (.str "near")))) (tTest (tOp (rI0 fun i j => V.bl (decide (j < i))) (tOp (rIxT K) (tVar 3) (tC (.int 1))) (tC (.int 22)))))) (tAsg (tC (.bl false)) (gName 4)) tNext)
      (tIfS (tOr (tNot (tB (tVar 4))) (tTest (tOp rEq (tVar 1) (tC (.int 20))))) (tRet (tVar 1)) tNext) D σ H := by
  refine w_seq (w_ifS (w_or (w_and (w_test (w_op (w_var e2 (w_c (w_eq rfl ⟨_, rfl, wdF n1 (ifF rfl ?_)⟩))))))))
  exact w_and (w_test (w_op (w_var e2 (w_c (w_eq rfl ⟨_, rfl, wdF n2 (ifF rfl (w_next (wi_tail e1 e4 hi qt qf)))⟩)))))
theorem in13 {x : Int} : inV (.int x) [.int 1, .int 3] = true ↔ (x = 1 ∨ x = 3) := by
  unfold inV
  simp [eqV]
  omega
theorem turn_ok {ts : List Int} (h : InsOk (InF.turn ts).ins) : TnsOk ts := by
  obtain ⟨g, e, k⟩ := h
  cases g with
  | turn us =>
    have e2 : ts = us := by
      injection e with _ e
      injection e with e _
      injection e
    rw [e2]
    exact k
  | til t l => cases t <;> cases e
  | _ => cases e
theorem eqvAll_ints : ∀ (l m : List Int), PyData.eqvAll (l.map .int) (m.map .int) = decide (l = m)
  | [], [] => rfl
  | [], _ :: _ => rfl
  | _ :: _, [] => rfl
  | a :: l, b :: m => by
    show PyData.eqvAll (PyData.int a :: l.map .int) (PyData.int b :: m.map .int) = _
    rw [PyData.eqvAll, eqvAll_ints l m, PyData.eqv]
    by_cases h : a = b <;> by_cases k : l = m <;> simp [h, k]
theorem same_sorted : ∀ {l m : List Int}, l.Pairwise (· < ·) → m.Pairwise (· < ·) → (∀ k, k ∈ l ↔ k ∈ m) → l = m
  | [], [], _, _, _ => rfl
  | [], b :: m, _, _, h => absurd ((h b).mpr List.mem_cons_self) (by simp)
  | a :: l, [], _, _, h => absurd ((h a).mp List.mem_cons_self) (by simp)
  | a :: l, b :: m, h1, h2, h => by
    obtain ⟨a1, l1⟩ := List.pairwise_cons.mp h1
    obtain ⟨b1, m1⟩ := List.pairwise_cons.mp h2
    have e : a = b := by
      rcases List.mem_cons.mp ((h a).mp List.mem_cons_self) with e | e
      · exact e
      · rcases List.mem_cons.mp ((h b).mpr List.mem_cons_self) with e2 | e2
        · exact e2.symm
        · have x := a1 b e2
          have y := b1 a e
          omega
    subst e
    rw [same_sorted l1 m1 fun k => ⟨fun z => ?_, fun z => ?_⟩]
    · rcases List.mem_cons.mp ((h k).mp (List.mem_cons_of_mem _ z)) with e | e
      · have := a1 k z
        omega
      · exact e
    · rcases List.mem_cons.mp ((h k).mpr (List.mem_cons_of_mem _ z)) with e | e
      · have := b1 k z
        omega
      · exact e
def spWI (K : PySem.W.Frag) : Sp := fun vs H Q _ => ∃ (d : Addr) (m : MapD) (is : List InF), vs = [.ref d] ∧ TdAt K H d m ∧ MapOk m ∧ m.is = is.map InF.ins ∧ ∀ H', Same H H' → Q (wiV m.fs is) H'
abbrev s__law_wrong_index : Stmt := top 64
theorem sc__law_wrong_index : FnScope ["_law_drawn_here", "_law_k", "_law_word", "_law_parts_here", "_law_good"] ["_law_drawn_here"] (defScope s__law_wrong_index) := ⟨rfl, rfl, rfl, by decide +kernel, rfl, by decide +kernel, by decide +kernel⟩
theorem ok_wrong_index (D : DefAt K mg "_law_wrong_index" s__law_wrong_index ["_law_drawn_here"]) (T : Txt K mg) : DefOk P w K mg base CX0 1 "_law_wrong_index" (spWI K) := by
  refine D.ok sc__law_wrong_index (fun vs H Q E h => ?_) (fun f cdv A outer s0 H vs Q E hr h => ?_)
  · obtain ⟨d, m, is, rfl, _⟩ := h
    rfl
  · obtain ⟨d, m, is, rfl, hd, ok, ei, q⟩ := h
    obtain ⟨ra, fa, ia, DD, h1, h2, h3, h4, h5, h6⟩ := hd.ex
    refine ⟨_, (pss_cons (ps_if (pt_cmpR (show OpR _ (compareOp .NotEq) (rNeD K) from op_neD hr.units) (pe_lc (own := [("_law_k", 1)]) rfl sc__law_wrong_index.nd (pi_range2 rfl T.b_range (pa_cons pe_int (pa_cons (pe_callB (show CallR _ _ (rLen K) from call_lenK) rfl T.b_len bt_len (pa_cons (pe_ix (show IxR _ (rIxT K) from ix_tup) (pv 0) pe_int (fun _ _ => rfl)) pa_nil)) pa_nil))) (blkOk_by (own := [("_law_k", 1)]) (N := ["_law_drawn_here", "_law_k", "_law_word", "_law_parts_here", "_law_good"]) (sc := defScope s__law_wrong_index) (by decide +kernel)) (fun _ _ _ _ _ => (pg_name (i := 1) sc__law_wrong_index.nd rfl (by first | exact Or.inl rfl | exact Or.inr rfl))) (fun _ _ _ _ _ => pts_one (pt_cmpR op_ge (pe_ix (show IxR _ (rIxT K) from ix_tup) (pe_ix (show IxR _ (rIxT K) from ix_tup) (pv 0) pe_int (fun _ _ => rfl)) (pe_op op_sub (pv 1) pe_int) (fun _ _ => rfl)) (pe_ix (show IxR _ (rIxT K) from ix_tup) (pe_ix (show IxR _ (rIxT K) from ix_tup) (pv 0) pe_int (fun _ _ => rfl)) (pv 1) (fun _ _ => rfl)) (nomark _))) (fun _ _ _ _ _ => (pv 1))) (pe_lst pa_nil) (nomark _)) (pss_one (ps_ret (pe_op op_sub pe_int pe_int))) pss_nil) (pss_cons (ps_for PassesOwn.never rfl (pi_range1 rfl T.b_range (pa_cons (pe_callB (show CallR _ _ (rLen K) from call_lenK) rfl T.b_len bt_len (pa_cons (pe_ix (show IxR _ (rIxT K) from ix_tup) (pv 0) pe_int (fun _ _ => rfl)) pa_nil)) pa_nil)) (pg_name (i := 1) sc__law_wrong_index.nd rfl (by first | exact Or.inl rfl | exact Or.inr rfl)) (pss_cons (ps_par (i := 2) (j := 3) rfl sc__law_wrong_index.nd rfl rfl (by decide) rfl rfl (pa_cons (pe_ix (show IxR _ (rIxT K) from ix_tup) (pe_ix (show IxR _ (rIxT K) from ix_tup) (pe_ix (show IxR _ (rIxT K) from ix_tup) (pv 0) pe_int (fun _ _ => rfl)) (pv 1) (fun _ _ => rfl)) pe_int (fun _ _ => rfl)) (pa_cons (pe_slice (show SlR _ (rSlA K) from sl_tupA) (pe_ix (show IxR _ (rIxT K) from ix_tup) (pe_ix (show IxR _ (rIxT K) from ix_tup) (pv 0) pe_int (fun _ _ => rfl)) (pv 1) (fun _ _ => rfl)) (po_some pe_int) po_none) pa_nil)) (by rfl)) (pss_cons (ps_set (i := 4) sc__law_wrong_index.nd rfl (by first | exact Or.inl rfl | exact Or.inr rfl) pe_bl) (pss_cons (ps_if (pt_cmpR op_eq (pv 2) pe_str (nomark _)) (pss_one (ps_set (i := 4) sc__law_wrong_index.nd rfl (by first | exact Or.inl rfl | exact Or.inr rfl) (pe_and (pe_cmpR op_le (pe_callB (cr_maxT rfl) rfl T.b_max bt_max (pa_cons (pe_ix (show IxR _ (rIxT K) from ix_tup) (pv 3) pe_int (fun _ _ => rfl)) pa_nil)) pe_int (nomark _)) (pe_one (pe_cmpR (show OpR _ (compareOp .Eq) (rEqD K) from op_eqD hr.units) (pe_callTy call_list_of rfl T.b_list bt_list (pa_cons (pe_ix (show IxR _ (rIxT K) from ix_tup) (pv 3) pe_int (fun _ _ => rfl)) pa_nil)) (pe_callB (S8.cr_sortI rfl) rfl T.b_sorted bt_sorted (pa_cons (pe_callTy (S8.cr_setI rfl) rfl T.b_set bt_set (pa_cons (pe_ix (show IxR _ (rIxT K) from ix_tup) (pv 3) pe_int (fun _ _ => rfl)) pa_nil)) pa_nil)) (nomark _)))))) pss_nil) (pss_cons (ps_if (pt_cmpR (show OpR _ (compareOp .In) (rIn K false) from op_in_seq) (pv 2) (pe_tup (pa_cons pe_str (pa_cons pe_str pa_nil))) rfl) (pss_one (ps_set (i := 4) sc__law_wrong_index.nd rfl (by first | exact Or.inl rfl | exact Or.inr rfl) (pe_and (pe_chain op_le op_le (pe_ix (show IxR _ (rIxT K) from ix_tup) (pv 3) (pe_op op_sub pe_int pe_int) (fun _ _ => rfl)) (pe_ix (show IxR _ (rIxT K) from ix_tup) (pv 3) (pe_op op_sub pe_int pe_int) (fun _ _ => rfl)) pe_int) (pe_one (pe_or (pe_cmpR op_eq (pv 2) pe_str (nomark _)) (pe_one (pe_cmpR (show OpR _ (compareOp .In) (rIn K false) from op_in_seq) (pe_ix (show IxR _ (rIxT K) from ix_tup) (pv 3) pe_int (fun _ _ => rfl)) (pe_tup (pa_cons pe_int (pa_cons pe_int pa_nil))) rfl))))))) pss_nil) (pss_cons (ps_if (PW.pt (pw_or (PW.pt (pw_and (pt_cmpR op_eq (pv 2) pe_str (nomark _)) (pw_and1 (pt_cmpR op_gt (pe_ix (show IxR _ (rIxT K) from ix_tup) (pv 3) pe_int (fun _ _ => rfl)) pe_int (nomark _))))) (pw_or1 (PW.pt (pw_and (pt_cmpR op_eq (pv 2) pe_str (nomark _)) (pw_and1 (pt_cmpR op_gt (pe_ix (show IxR _ (rIxT K) from ix_tup) (pv 3) pe_int (fun _ _ => rfl)) pe_int (nomark _)))))))) (pss_one (ps_set (i := 4) sc__law_wrong_index.nd rfl (by first | exact Or.inl rfl | exact Or.inr rfl) pe_bl)) pss_nil) (pss_one (ps_if (PW.pt (pw_or (pt_not (pt_val (pv 4))) (pw_or1 (pt_cmpR op_eq (pv 1) pe_int (nomark _))))) (pss_one (ps_ret (pv 1))) pss_nil)))))))) (pss_one (ps_ret pe_non)))), ?_⟩
    walk_at "gx"
    have fl := ok.fs.2.1
    have f1 := ok.fs.1
    have ad : ∀ (i : Nat) (z : Int), m.fs[i]? = some z → atI (m.fs.map V.int) (i : Int) = some (.int z) := fun i z e => at_nat (by rw [List.getElem?_map, e]; rfl)
    refine lc_rng2 (by rw [List.length_map]; omega) (fun i D H' => ∃ l : List Int, H D = none ∧ H' D = some (.lst (l.map V.int)) ∧ Same H H' ∧ l.length ≤ i ∧ (l = [] ↔ ∀ (k : Nat) (a b : Int), k < i → m.fs[k]? = some a → m.fs[k + 1]? = some b → a < b))
      (fun D hD => ⟨[], hD, upd_same, Same.updD (Same.refl _) hD, Nat.le_refl _, fun _ k a b hk => absurd hk (Nat.not_lt_zero _), fun _ => rfl⟩) ?_ ?_
    · rintro i D H0 hi ⟨l, hD, gD, k0, ll, li⟩
      rw [List.length_map] at hi
      have i1 : i + 1 < m.fs.length := by omega
      have e0 := List.getElem?_eq_getElem (l := m.fs) (i := i) (by omega)
      have e1 := List.getElem?_eq_getElem i1
      generalize m.fs[i] = x at e0
      generalize m.fs[i + 1] = y at e1
      have c1 := Same.seqT k0 h1
      have c3 := Same.seqT k0 h3
      walk_at "g1"
      refine ⟨rfl, ?_⟩
      walk_at "gx"
      have j0 : (1 : Int) + (i : Int) - 1 = (i : Nat) := by omega
      have j1 : (1 : Int) + (i : Int) = ((i + 1 : Nat) : Int) := by omega
      rw [j0]
      refine w_ixT c3 (ad i x e0) ?_
      walk_at "gx"
      rw [j1]
      refine w_ixT c3 (ad (i + 1) y e1) ?_
      walk_at "gx"
      refine ited (fun c => ?_) (fun c => ?_)
      · walk_at "gx"
        refine ⟨_, gD, smallL (by rw [List.length_map]; omega), l ++ [((i + 1 : Nat) : Int)], hD, by rw [upd_same, List.map_append]; rfl, Same.updD k0 hD, by rw [List.length_append]; simp; omega, fun z => ?_, fun z => ?_⟩
        · simp at z
        · have := z i x y (Nat.lt_succ_self i) e0 e1
          omega
      · refine ⟨l, hD, gD, k0, by omega, fun z k a b hk h1 h2 => ?_, fun z => li.mpr fun k a b hk => z k a b (by omega)⟩
        rcases Nat.lt_or_ge k i with g | g
        · exact li.mp z k a b g h1 h2
        · have e : k = i := by omega
          subst e
          rw [e0] at h1
          rw [e1] at h2
          cases h1
          cases h2
          omega
    · rintro D H1 ⟨l, hD, gD, k1, ll, li⟩
      walk_at "gx"
      refine ⟨small (by simp), fun p5 n5 => ?_⟩
      generalize hE5 : upd H1 p5 _ = H5; obtain ⟨k5, g5⟩ := updN n5 hE5
      have s5 : Same H H5 := fun b u e => k5 _ _ (k1 _ _ e)
      have pw : l = [] ↔ m.fs.Pairwise (· < ·) := li.trans ⟨fun z => pw_of_adj fun k a b h1 h2 => z k a b (by have := (List.getElem?_eq_some_iff.mp h2).1; rw [List.length_map]; omega) h1 h2, fun z k a b _ h1 h2 => adj_of_pw z h1 h2⟩
      refine w_neNil (dp_ints (ns := l) (SqL.of (k5 _ _ gD))) g5 (shp_ints l) (by decide) ?_
      refine ⟨_, rfl, iteb (fun e => ?_) (fun e => ?_)⟩
      · have nl : l ≠ [] := fun z => by rw [z] at e; cases e
        walk_at "gx"
        have e2 : wiV m.fs is = .int (-1) := if_neg fun z => nl (pw.mpr z)
        have q' := q H5 s5
        rw [e2] at q'
        exact q'
      · have l0 : l = [] := by
          cases l with
          | nil => rfl
          | cons a r => cases e
        have e2 : wiV m.fs is = (match firstNot good is with | none => V.non | some k => .int k) := if_pos (pw.mp l0)
        have q2 := q
        rw [e2] at q2
        clear q pw li
        have h15 := Same.seqT s5 h1
        have h45 := Same.seqT s5 h4
        have n20 := ok.n20
        have dl : DD.length = is.length := by
          have e := congrArg List.length h5
          rw [List.length_map, ei, List.length_map] at e
          exact e
        have il : is.length ≤ 20 := by rw [ei, List.length_map] at n20; exact n20
        iterate 6 walk_at "g1"
        walk_at "gx"
        refine lp_rng1 (n := is.length) (by rw [List.length_map, dl]) (by omega) (fun j σ H' => ∃ v1 v2 v3 v4, σ = [some (.ref d), v1, v2, v3, v4] ∧ Same H H' ∧ ∀ (k : Nat) (y : InF), k < j → is[k]? = some y → good y = true)
          ⟨_, _, _, _, rfl, s5, fun k y hk => absurd hk (Nat.not_lt_zero _)⟩ ?_ ?_
        · rintro i σ H6 hi ⟨v1, v2, v3, v4, rfl, s6, prev⟩
          have hf := List.getElem?_eq_getElem hi
          generalize is[i] = f at hf
          obtain ⟨a, ha, fat⟩ : ∃ a, (drefs DD)[i]? = some (.ref a) ∧ FAt K H6 a f := by
            have e : (DD.map (·.2))[i]? = some f.ins := by rw [h5, ei, List.getElem?_map, hf]; rfl
            rw [List.getElem?_map] at e
            cases e2 : DD[i]? with
            | none => rw [e2] at e; cases e
            | some p =>
              rw [e2] at e
              have e : some p.2 = some f.ins := e
              refine ⟨p.1, by rw [List.getElem?_map, e2]; rfl, ?_⟩
              have q := h6 p (List.mem_of_getElem? e2)
              rw [Option.some.inj e] at q
              exact (FAt.of q).same s6
          have c1 := Same.seqT s6 h1
          have c4 := Same.seqT s6 h4
          clear h15 h45 h1 h4 h2 h3
          have i20 : i < 20 := by omega
          have next : ∀ {H' : Hp}, Same H6 H' → good f = true → Same H H' ∧ ∀ (k : Nat) (y : InF), k < i + 1 → is[k]? = some y → good y = true := fun s g => ⟨fun b u e => s _ _ (s6 _ _ e), fun k y hk hy => by
            rcases Nat.lt_or_ge k i with z | z
            · exact prev k y z hy
            · have e : k = i := by omega
              subst e
              rw [hf] at hy
              cases hy
              exact g⟩
          have out : ∀ {H' : Hp}, Same H6 H' → good f = false → Q (.int i) H' := fun s g => by
            have q3 := q2 _ (fun b u e => s _ _ (s6 _ _ e))
            rw [firstNot_at hf g prev] at q3
            exact q3
          clear q2 prev
          walk_at "gx"
          refine w_ixT c4 (at_nat ha) ?_
          obtain ⟨ps, g, fps⟩ := fat.head
          walk_at "gx"
          refine w_ixT c4 (at_nat ha) ?_
          walk_at "gx"
          refine w_slA g fun pp H7 k7 g7 => ?_
          rw [cut1] at g7
          have fps7 := fps.same k7
          clear g fps fat c1 c4 ha
          walk_at "gx"
          refine ⟨_, _, rfl, ?_⟩
          cases f with
          | walk x y =>
            have e : ps = [.int x, .int y] := fps7
            subst e
            iterate 7 walk_at "g1"
            refine w_op (w_var rfl (w_c (w_eq rfl ⟨_, rfl, wdF (show ("walk" : Str) ≠ "turn" by decide) ?_⟩)))
            walk_at "gx"
            refine ⟨small (by simp), fun p8 n8 => ?_⟩
            generalize hE8 : upd H7 p8 _ = H8; obtain ⟨k8, g8⟩ := updN n8 hE8
            refine ⟨p8, _, rfl, .inr (SqT.of g8), rfl, rfl, _, rfl, ifT rfl ?_⟩
            have g78 := Same.seqT k8 g7
            have s8 : Same H6 H8 := fun b u e => k8 _ _ (k7 _ _ e)
            clear g7
            walk_at "gx"
            refine ited (fun c1 => ?_) (fun c1 => ?_)
            · walk_at "gx"
              refine ited (fun c2 => ?_) (fun c2 => ?_)
              · have eg : good (.walk x y) = true := decide_eq_true ⟨c1, c2⟩
                refine w_orV (w_op (w_var rfl (w_c (w_eq rfl ⟨_, rfl, wdT rfl ?_⟩))))
                refine w_gname (wi_end (g := true) rfl rfl rfl (show ("walk" : Str) ≠ "beside" by decide) (show ("walk" : Str) ≠ "near" by decide) i20 (fun _ => ⟨_, _, _, _, rfl, next s8 eg⟩) fun z => nomatch z)
              · have eg : good (.walk x y) = false := decide_eq_false fun z => c2 z.2
                refine w_gname (wi_end (g := false) rfl rfl rfl (show ("walk" : Str) ≠ "beside" by decide) (show ("walk" : Str) ≠ "near" by decide) i20 (fun z => nomatch z) fun _ => out s8 eg)
            · have eg : good (.walk x y) = false := decide_eq_false fun z => c1 z.1
              refine ⟨_, rfl, ifF rfl (w_gname (wi_end (g := false) rfl rfl rfl (show ("walk" : Str) ≠ "beside" by decide) (show ("walk" : Str) ≠ "near" by decide) i20 (fun z => nomatch z) fun _ => out s8 eg))⟩
          | til t l =>
            have eg : good (.til t l) = true := rfl
            cases t with
            | true =>
              iterate 7 walk_at "g1"
              refine w_op (w_var rfl (w_c (w_eq rfl ⟨_, rfl, wdF (show ("until" : Str) ≠ "turn" by decide) ?_⟩)))
              walk_at "gx"
              refine ⟨small (by simp), fun p8 n8 => ?_⟩
              generalize hE8 : upd H7 p8 _ = H8; obtain ⟨k8, g8⟩ := updN n8 hE8
              refine ⟨p8, _, rfl, .inr (SqT.of g8), rfl, rfl, _, rfl, ifF rfl ?_⟩
              have s8 : Same H6 H8 := fun b u e => k8 _ _ (k7 _ _ e)
              refine w_next (wi_end (g := true) rfl rfl rfl (show ("until" : Str) ≠ "beside" by decide) (show ("until" : Str) ≠ "near" by decide) i20 (fun _ => ⟨_, _, _, _, rfl, next s8 eg⟩) fun z => nomatch z)
            | false =>
              iterate 7 walk_at "g1"
              refine w_op (w_var rfl (w_c (w_eq rfl ⟨_, rfl, wdF (show ("toward" : Str) ≠ "turn" by decide) ?_⟩)))
              walk_at "gx"
              refine ⟨small (by simp), fun p8 n8 => ?_⟩
              generalize hE8 : upd H7 p8 _ = H8; obtain ⟨k8, g8⟩ := updN n8 hE8
              refine ⟨p8, _, rfl, .inr (SqT.of g8), rfl, rfl, _, rfl, ifF rfl ?_⟩
              have s8 : Same H6 H8 := fun b u e => k8 _ _ (k7 _ _ e)
              refine w_next (wi_end (g := true) rfl rfl rfl (show ("toward" : Str) ≠ "beside" by decide) (show ("toward" : Str) ≠ "near" by decide) i20 (fun _ => ⟨_, _, _, _, rfl, next s8 eg⟩) fun z => nomatch z)
          | beside n l =>
            have e : ps = [.int n, .str (tx l)] := fps7
            subst e
            iterate 7 walk_at "g1"
            refine w_op (w_var rfl (w_c (w_eq rfl ⟨_, rfl, wdF (show ("beside" : Str) ≠ "turn" by decide) ?_⟩)))
            walk_at "gx"
            refine ⟨small (by simp), fun p8 n8 => ?_⟩
            generalize hE8 : upd H7 p8 _ = H8; obtain ⟨k8, g8⟩ := updN n8 hE8
            refine ⟨p8, _, rfl, .inr (SqT.of g8), rfl, rfl, _, rfl, ifF rfl ?_⟩
            have g78 := Same.seqT k8 g7
            have s8 : Same H6 H8 := fun b u e => k8 _ _ (k7 _ _ e)
            clear g7
            iterate 6 walk_at "g1"
            refine w_op (w_var rfl (w_c (w_eq rfl ⟨_, rfl, wdT rfl ?_⟩)))
            walk_at "gx"
            refine ited (fun c => ?_) (fun c => ?_)
            · have eg : good (.beside n l) = false := decide_eq_false (by omega)
              exact ifT rfl (w_asg (w_c (w_gname (wi_tail (g := false) rfl rfl i20 (fun z => nomatch z) fun _ => out s8 eg))))
            · have eg : good (.beside n l) = true := decide_eq_true (by omega)
              refine w_and (w_test (w_op (w_var rfl (w_c (w_eq rfl ⟨_, rfl, wdF (show ("beside" : Str) ≠ "near" by decide) (ifF rfl ?_)⟩)))))
              exact w_next (wi_tail (g := true) rfl rfl i20 (fun _ => ⟨_, _, _, _, rfl, next s8 eg⟩) fun z => nomatch z)
          | near l n =>
            have e : ps = [.str (tx l), .int n] := fps7
            subst e
            iterate 7 walk_at "g1"
            refine w_op (w_var rfl (w_c (w_eq rfl ⟨_, rfl, wdF (show ("near" : Str) ≠ "turn" by decide) ?_⟩)))
            walk_at "gx"
            refine ⟨small (by simp), fun p8 n8 => ?_⟩
            generalize hE8 : upd H7 p8 _ = H8; obtain ⟨k8, g8⟩ := updN n8 hE8
            refine ⟨p8, _, rfl, .inr (SqT.of g8), rfl, rfl, _, rfl, ifF rfl ?_⟩
            have g78 := Same.seqT k8 g7
            have s8 : Same H6 H8 := fun b u e => k8 _ _ (k7 _ _ e)
            clear g7
            iterate 6 walk_at "g1"
            refine w_op (w_var rfl (w_c (w_eq rfl ⟨_, rfl, wdF (show ("near" : Str) ≠ "beside" by decide) (ifF rfl ?_)⟩)))
            refine w_and (w_test (w_op (w_var rfl (w_c (w_eq rfl ⟨_, rfl, wdT rfl ?_⟩)))))
            walk_at "gx"
            refine ited (fun c => ?_) (fun c => ?_)
            · have eg : good (.near l n) = false := decide_eq_false (by omega)
              exact w_asg (w_c (w_gname (wi_tail (g := false) rfl rfl i20 (fun z => nomatch z) fun _ => out s8 eg)))
            · have eg : good (.near l n) = true := decide_eq_true (by omega)
              exact w_next (wi_tail (g := true) rfl rfl i20 (fun _ => ⟨_, _, _, _, rfl, next s8 eg⟩) fun z => nomatch z)
          | shore x y z =>
            have e : ps = [.int x, .int y, .int z] := fps7
            subst e
            iterate 7 walk_at "g1"
            refine w_op (w_var rfl (w_c (w_eq rfl ⟨_, rfl, wdF (show ("shore" : Str) ≠ "turn" by decide) ?_⟩)))
            walk_at "gx"
            refine ⟨small (by simp), fun p8 n8 => ?_⟩
            generalize hE8 : upd H7 p8 _ = H8; obtain ⟨k8, g8⟩ := updN n8 hE8
            refine ⟨p8, _, rfl, .inr (SqT.of g8), rfl, rfl, _, rfl, ifT rfl ?_⟩
            have g78 := Same.seqT k8 g7
            have s8 : Same H6 H8 := fun b u e => k8 _ _ (k7 _ _ e)
            clear g7
            have bad : ¬ (y ≤ z ∧ z ≤ 20 ∧ (x = 1 ∨ x = 3)) → good (.shore x y z) = false := fun h => decide_eq_false h
            walk_at "gx"
            refine ited (fun c1 => ?_) (fun c1 => ?_)
            · walk_at "gx"
              refine ited (fun c2 => ?_) (fun c2 => ?_)
              · refine w_orV (w_op (w_var rfl (w_c (w_eq rfl ⟨_, rfl, wdF (show ("shore" : Str) ≠ "walk" by decide) ?_⟩))))
                walk_at "gx"
                refine ⟨small (by simp), fun p9 n9 => ?_⟩
                generalize hE9 : upd H8 p9 _ = H9; obtain ⟨k9, g9⟩ := updN n9 hE9
                refine ⟨p9, _, rfl, .inr (SqT.of g9), rfl, rfl, ?_⟩
                have s9 : Same H6 H9 := fun b u e => k9 _ _ (s8 _ _ e)
                refine w_gname (wi_end (g := inV (.int x) [.int 1, .int 3]) rfl rfl rfl (show ("shore" : Str) ≠ "beside" by decide) (show ("shore" : Str) ≠ "near" by decide) i20 (fun h => ⟨_, _, _, _, rfl, next s9 ?_⟩) fun h => out s9 (bad fun q => ?_))
                · exact decide_eq_true ⟨c1, c2, in13.mp h⟩
                · rw [in13.mpr q.2.2] at h
                  cases h
              · exact w_gname (wi_end (g := false) rfl rfl rfl (show ("shore" : Str) ≠ "beside" by decide) (show ("shore" : Str) ≠ "near" by decide) i20 (fun z => nomatch z) fun _ => out s8 (bad fun h => c2 h.2.1))
            · exact ⟨_, rfl, ifF rfl (w_gname (wi_end (g := false) rfl rfl rfl (show ("shore" : Str) ≠ "beside" by decide) (show ("shore" : Str) ≠ "near" by decide) i20 (fun z => nomatch z) fun _ => out s8 (bad fun h => c1 h.1)))⟩
          | turn ts =>
            obtain ⟨t, e, gt⟩ := fps7
            subst e
            iterate 7 walk_at "g1"
            refine w_op (w_var rfl (w_c (w_eq rfl ⟨_, rfl, wdT rfl ?_⟩)))
            have tok : TnsOk ts := turn_ok (ok.is _ (by rw [ei]; exact List.mem_map.mpr ⟨_, List.mem_of_getElem? hf, rfl⟩))
            walk_at "gx"
            refine ⟨t, ts, rfl, gt, fun z => by rw [z] at tok; exact absurd tok.1 (by decide), fun mx h1 h2 => ?_⟩
            have m3 := (tok.2.2 mx h1).2
            walk_at "gx"
            refine ited (fun c => ?_) (fun c => absurd m3 c)
            walk_at "gx"
            refine ⟨t, _, rfl, .inr gt, fun p8 n8 => ?_⟩
            generalize hE8 : upd H7 p8 _ = H8; obtain ⟨k8, g8⟩ := updN n8 hE8
            have gt8 := Same.seqT k8 gt
            have g78 := Same.seqT k8 g7
            clear g7 gt
            walk_at "gx"
            refine ⟨t, ts, rfl, gt8, by have := tok.2.1; omega, fun p9 n9 => ?_⟩
            generalize hE9 : upd H8 p9 _ = H9; obtain ⟨k9, g9⟩ := updN n9 hE9
            walk_at "gx"
            refine ⟨p9, ts, rfl, g9, by have := tok.2.1; omega, fun l p10 pw mem n10 => ?_⟩
            generalize hE10 : upd H9 p10 _ = H10; obtain ⟨k10, g10⟩ := updN n10 hE10
            have s10 : Same H6 H10 := fun b u e => k10 _ _ (k9 _ _ (k8 _ _ (k7 _ _ e)))
            refine ⟨_, _, dp_ints (ns := ts) (SqL.of (k10 _ _ (k9 _ _ g8))), dp_ints (ns := l) (SqL.of g10), (shp_ints ts).shaped (by decide), (shp_ints l).shaped (by decide), ?_⟩
            have eg : PyData.eqv (.list (ts.map .int)) (.list (l.map .int)) = good (.turn ts) := by
              rw [PyData.eqv, eqvAll_ints]
              exact decide_eq_decide.mpr ⟨fun e => by rw [e]; exact pw, fun p => same_sorted p pw fun k => (mem k).symm⟩
            rw [eg]
            refine w_gname ?_
            walk_at "gx"
            refine ⟨small (by simp), fun p11 n11 => ?_⟩
            generalize hE11 : upd H10 p11 _ = H11; obtain ⟨k11, g11⟩ := updN n11 hE11
            refine ⟨p11, _, rfl, .inr (SqT.of g11), rfl, rfl, _, rfl, ifF rfl ?_⟩
            have s11 : Same H6 H11 := fun b u e => k11 _ _ (s10 _ _ e)
            exact w_next (wi_end (g := good (.turn ts)) rfl rfl rfl (show ("turn" : Str) ≠ "beside" by decide) (show ("turn" : Str) ≠ "near" by decide) i20 (fun z => ⟨_, _, _, _, rfl, next s11 z⟩) fun z => out s11 z)
        · rintro σ H6 ⟨v1, v2, v3, v4, rfl, s6, prev⟩
          have e : firstNot good is = none := firstNot_none fun x hx => by
            obtain ⟨k, hk⟩ := List.getElem?_of_mem hx
            exact prev k x (List.getElem?_eq_some_iff.mp hk).1 hk
          have q3 := q2 H6 s6
          rw [e] at q3
          walk_at "gx"
          exact q3
end
end
section
/-! ### what is due -/
def wsF : InF → Bool
  | .til _ l => wS l false | .beside _ l => wS l true | .near l _ => wS l true | _ => false
def ptD : Pt → PyData
  | .n i => .int i | .N l => .tuple (l.map .int) | .s l => .str (tx l)
def insD (f : InF) : PyData := .tuple (.str (hdw f.ins.1) :: f.ins.2.map ptD)
def chartD (m : MapD) : PyData := .tuple [.str "chart", .tuple (m.rows.map fun r => .str (tx r)), .str (tx m.z), .tuple (m.fs.map .int), .tuple (m.is.map fun i => .tuple (.str (hdw i.1) :: i.2.map ptD))]
/-- the first wrong thing of a chart -/
def faultOf (m : MapD) (is : List InF) : Option Int := if wS m.z false = true ∨ ¬ m.fs.Pairwise (· < ·) then some (-1) else (firstNot (fun f => good f && !wsF f) is).map fun k => (k : Int)
def dueD (m : MapD) (is : List InF) : PyData := match faultOf m is with
  | none => chartD m
  | some k => .tuple [.str "InvalidMap", .int k]
theorem abc_le {c : Nat} (h : c ∈ abcL) : c ≤ 126 := by
  have z : abcL.all (fun c => decide (c ≤ 126)) = true := by decide
  exact of_decide_eq_true (List.all_eq_true.mp z c h)
theorem InsOk.f {f : InF} (h : InsOk f.ins) : f.Ok := by
  obtain ⟨g, e, k⟩ := h
  cases f with
  | til t l => cases t <;> cases g with
    | til t' l' => cases t' <;> cases e <;> exact k
    | _ => cases e
  | _ => cases g with
    | til t' l' => cases t' <;> cases e
    | _ => cases e <;> exact k
/-- a part of an instruction that was read -/
def PartV (K : PySem.W.Frag) (H : Hp) (v : V) : Prop := (∃ i, v = .int i) ∨ (∃ l, v = .str (tx l) ∧ l.length ≤ 28 ∧ ∀ c ∈ l, c ≤ 126) ∨ ∃ t ts, v = .ref t ∧ SqT K H t ts
theorem PartV.same {K : PySem.W.Frag} {H H' : Hp} {v : V} (s : Same H H') (h : PartV K H v) : PartV K H' v := h.imp id (Or.imp id fun ⟨t, ts, e, g⟩ => ⟨t, ts, e, Same.seqT s g⟩)
theorem sgs_part {K : PySem.W.Frag} {H : Hp} {l : List Nat} (h : SgsOk l) : PartV K H (.str (tx l)) := .inr (.inl ⟨l, rfl, h.2.1, fun c hc => abc_le (h.2.2 c hc)⟩)
theorem FPs.parts {K : PySem.W.Frag} {H : Hp} {ps : List V} {f : InF} (h : FPs K H ps f) (o : f.Ok) : ps.length ≤ 3 ∧ ∀ v ∈ ps, PartV K H v := by
  have one : ∀ {x : V}, PartV K H x → ∀ v ∈ [x], PartV K H v := fun hx v hv => by rw [List.mem_singleton.mp hv]; exact hx
  have two : ∀ {x y : V}, PartV K H x → PartV K H y → ∀ v ∈ [x, y], PartV K H v := fun hx hy v hv => (List.mem_cons.mp hv).elim (fun e => by rw [e]; exact hx) (one hy v)
  have num : ∀ i, PartV K H (.int i) := fun i => .inl ⟨i, rfl⟩
  cases f with
  | turn ts => obtain ⟨t, e, g⟩ := h; rw [e]; exact ⟨by simp, one (.inr (.inr ⟨t, _, rfl, g⟩))⟩
  | walk x y => rw [show ps = _ from h]; exact ⟨by simp, two (num x) (num y)⟩
  | til t l => rw [show ps = _ from h]; exact ⟨by simp, one (sgs_part o)⟩
  | beside n l => rw [show ps = _ from h]; exact ⟨by simp, two (num n) (sgs_part o.2)⟩
  | near l n => rw [show ps = _ from h]; exact ⟨by simp, two (sgs_part o.1) (num n)⟩
  | shore x y z => rw [show ps = _ from h]; exact ⟨by simp, fun v hv => (List.mem_cons.mp hv).elim (fun e => by rw [e]; exact num x) (two (num y) (num z) v)⟩
def partBad (wt : Bool) : V → Bool
  | .str x => wS x.cps.toList wt
  | _ => false
def wet (f : InF) : Bool := match f with
  | .beside _ _ => true | .near _ _ => true | _ => false
theorem FPs.bad {K : PySem.W.Frag} {H : Hp} {ps : List V} {f : InF} (h : FPs K H ps f) : ps.any (partBad (wet f)) = wsF f := by
  cases f with
  | turn ts => obtain ⟨t, e, g⟩ := h; rw [e]; rfl
  | walk x y => rw [show ps = _ from h]; rfl
  | til t l => rw [show ps = _ from h]; simp [partBad, wsF, wet]
  | beside n l => rw [show ps = _ from h]; simp [partBad, wsF, wet]
  | near l n => rw [show ps = _ from h]; simp [partBad, wsF, wet]
  | shore x y z => rw [show ps = _ from h]; rfl
theorem firstNot_snoc {α : Type} {g : α → Bool} : ∀ {l : List α} {i : Nat} {x : α}, l[i]? = some x → firstNot g (l.take (i + 1)) = match firstNot g (l.take i) with
    | some k => some k
    | none => if g x = true then none else some i
  | y :: r, 0, x, e => by
    cases e
    show firstNot g [y] = if g y = true then none else some 0
    unfold firstNot
    by_cases h : g y = true <;> simp [h, firstNot]
  | y :: r, i + 1, x, e => by
    have ih := firstNot_snoc (g := g) (l := r) (i := i) e
    show firstNot g (y :: r.take (i + 1)) = match firstNot g (y :: r.take i) with | some k => some k | none => if g x = true then none else some (i + 1)
    unfold firstNot
    by_cases h : g y = true
    · rw [if_pos h, if_pos h, ih]
      cases firstNot g (r.take i) with
      | some k => rfl
      | none => by_cases k : g x = true <;> simp [k]
    · rw [if_neg h, if_neg h]
def svV : Option Nat → V
  | none => .non
  | some k => .int k
theorem firstNot_and {α : Type} {g h : α → Bool} : ∀ (l : List α), firstNot (fun x => g x && h x) l = match firstNot g l, firstNot h l with
    | none, b => b
    | some a, none => some a
    | some a, some b => some (min a b)
  | [] => rfl
  | x :: r => by
    have ih := firstNot_and (g := g) (h := h) r
    unfold firstNot
    by_cases e1 : g x = true <;> by_cases e2 : h x = true
    · simp only [e1, e2, Bool.and_self, if_true, ih]
      cases firstNot g r <;> cases firstNot h r <;> simp
    · simp only [e1, e2]
      cases firstNot g r <;> simp
    · simp only [e1, e2]
      cases firstNot h r <;> simp
    · simp [e1, e2]
/-- what may be wrong, as a value -/
def ov : Option Int → V
  | none => .non
  | some i => .int i
def wiO (fs : List Int) (is : List InF) : Option Int := if fs.Pairwise (· < ·) then (firstNot good is).map fun k => (k : Int) else some (-1)
def wsO (is : List InF) : Option Int := (firstNot (fun f => !wsF f) is).map fun k => (k : Int)
theorem wiV_ov (fs : List Int) (is : List InF) : wiV fs is = ov (wiO fs is) := by
  unfold wiV wiO
  split
  · cases firstNot good is <;> rfl
  · rfl
theorem wsV_ov (is : List InF) : svV (firstNot (fun f => !wsF f) is) = ov (wsO is) := by
  unfold wsO
  cases firstNot (fun f => !wsF f) is <;> rfl
theorem ov_filter (a b : Option Int) : [ov a, ov b].filter (fun v => !decide (v = V.non)) = (a.toList ++ b.toList).map V.int := by
  cases a <;> cases b <;> simp [ov]
theorem fault_min {m : MapD} {is : List InF} (e : wS m.z false = false) : (wiO m.fs is = none ∧ wsO is = none ∧ faultOf m is = none) ∨ ∃ k, faultOf m is = some k ∧ k ∈ (wiO m.fs is).toList ++ (wsO is).toList ∧ ∀ y ∈ (wiO m.fs is).toList ++ (wsO is).toList, k ≤ y := by
  unfold faultOf wiO wsO
  by_cases hp : m.fs.Pairwise (· < ·)
  · rw [if_pos hp, if_neg (by rw [e]; simp [hp]), firstNot_and is]
    cases h1 : firstNot good is with
    | none =>
      cases h2 : firstNot (fun f => !wsF f) is with
      | none => exact .inl ⟨rfl, rfl, rfl⟩
      | some b => exact .inr ⟨(b : Int), rfl, by simp, fun y hy => by simp at hy; omega⟩
    | some a =>
      cases h2 : firstNot (fun f => !wsF f) is with
      | none => exact .inr ⟨(a : Int), rfl, by simp, fun y hy => by simp at hy; omega⟩
      | some b =>
        refine .inr ⟨((min a b : Nat) : Int), rfl, ?_, fun y hy => ?_⟩
        · simp
          omega
        · simp at hy
          omega
  · rw [if_neg hp, if_pos (.inr hp)]
    refine .inr ⟨-1, rfl, by simp, fun y hy => ?_⟩
    cases h2 : firstNot (fun f => !wsF f) is <;> rw [h2] at hy <;> simp at hy <;> omega
theorem PtIs.dp {K : PySem.W.Frag} {H : Hp} {d : Pt} {v : V} (h : PtIs K H d v) : Dp K H v (ptD d) := by
  cases d with
  | n i => rw [show v = _ from h]; exact .int i
  | N l => obtain ⟨t, e, g⟩ := h; rw [e]; exact .tup g (dp_map fun x _ => .int x)
  | s l => rw [show v = _ from h]; exact .str _
theorem pts_dp {K : PySem.W.Frag} {H : Hp} : ∀ {ds : List Pt} {vs : List V}, Paired (PtIs K H) ds vs → DpAll K H vs (ds.map ptD)
  | _, _, .nil => .nil
  | _, _, .cons r p => .cons r.dp (pts_dp p)
theorem InsAt.dp {K : PySem.W.Frag} {H : Hp} {a : Addr} {i : Ins} (h : InsAt K H a i) : Dp K H (.ref a) (.tuple (.str (hdw i.1) :: i.2.map ptD)) := by
  obtain ⟨vs, g, p⟩ := h
  exact .tup g (.cons (.str _) (pts_dp p))
theorem DL.dp {K : PySem.W.Frag} {H : Hp} : ∀ {D : DL}, (∀ p ∈ D, InsAt K H p.1 p.2) → DpAll K H (drefs D) ((D.map (·.2)).map fun i => .tuple (.str (hdw i.1) :: i.2.map ptD))
  | [], _ => .nil
  | p :: D, h => .cons (h p List.mem_cons_self).dp (DL.dp fun q hq => h q (List.mem_cons_of_mem _ hq))
section
variable {P : Program} {w : World} {K : PySem.W.Frag} {mg : Str → Option Value} {base : Heap}
def spDue (K : PySem.W.Frag) : Sp := fun vs H Q _ => (∃ e : Int, vs = [.int e] ∧ ∀ p H', Same H H' → Dp K H' (.ref p) (.tuple [.str "DecodeError", .int e]) → Q (.ref p) H') ∨
  ∃ (d : Addr) (m : MapD) (is : List InF), vs = [.ref d] ∧ TdAt K H d m ∧ MapOk m ∧ m.is = is.map InF.ins ∧ ∀ p H', Same H H' → Dp K H' (.ref p) (dueD m is) → Q (.ref p) H'
abbrev s__law_due : Stmt := top 74
theorem sc__law_due : FnScope ["_law_told", "_law_wrong", "_law_signs_here", "_law_k", "_law_part", "_law_some"] ["_law_told"] (defScope s__law_due) := ⟨rfl, rfl, rfl, by decide +kernel, rfl, by decide +kernel, by decide +kernel⟩
theorem ok_due (D : DefAt K mg "_law_due" s__law_due ["_law_told"]) (T : Txt K mg) (D__law_wrong_signs : DefOk P w K mg base CX0 1 "_law_wrong_signs" spWS) (D__law_wrong_index : DefOk P w K mg base CX0 1 "_law_wrong_index" (spWI K)) : DefOk P w K mg base CX0 2 "_law_due" (spDue K) := by
  refine D.ok sc__law_due (fun vs H Q E h => ?_) (fun f cdv A outer s0 H vs Q E hr h => ?_)
  · rcases h with ⟨e, rfl, _⟩ | ⟨d, m, is, rfl, _⟩ <;> rfl
  · refine ⟨_, (pss_cons (ps_if (pt_val (pe_callB (show CallR _ _ (rIsi K) from call_isi) rfl T.b_isinstance bt_isinstance (pa_cons (pv 0) (pa_cons (pe_bltn (v := .ty "int") (u := .type "int") rfl T.b_int bt_int rfl) pa_nil)))) (pss_one (ps_ret (pe_tup (pa_cons pe_str (pa_cons (pv 0) pa_nil))))) pss_nil) (pss_cons (ps_if (pt_val (pe_c D__law_wrong_signs (hr.mono (by decide)) pass0 (pa_cons (pe_ix (show IxR _ (rIxT K) from ix_tup) (pv 0) pe_int (fun _ _ => rfl)) (pa_cons pe_bl pa_nil)))) (pss_one (ps_ret (pe_tup (pa_cons pe_str (pa_cons (pe_op op_sub pe_int pe_int) pa_nil))))) pss_nil) (pss_cons (ps_par (i := 1) (j := 2) rfl sc__law_due.nd rfl rfl (by decide) rfl rfl (pa_cons (pe_c D__law_wrong_index (hr.mono (by decide)) pass0 (pa_cons (pv 0) pa_nil)) (pa_cons pe_non pa_nil)) (by rfl)) (pss_cons (ps_for PassesOwn.never rfl (pi_range1 rfl T.b_range (pa_cons (pe_callB (show CallR _ _ (rLen K) from call_lenK) rfl T.b_len bt_len (pa_cons (pe_ix (show IxR _ (rIxT K) from ix_tup) (pv 0) pe_int (fun _ _ => rfl)) pa_nil)) pa_nil)) (pg_name (i := 3) sc__law_due.nd rfl (by first | exact Or.inl rfl | exact Or.inr rfl)) (pss_one (ps_for PassesOwn.never rfl (show PI _ _ _ (iTup K _) from pi_tup (pe_slice (show SlR _ (rSlA K) from sl_tupA) (pe_ix (show IxR _ (rIxT K) from ix_tup) (pe_ix (show IxR _ (rIxT K) from ix_tup) (pv 0) pe_int (fun _ _ => rfl)) (pv 3) (fun _ _ => rfl)) (po_some pe_int) po_none)) (pg_name (i := 4) sc__law_due.nd rfl (by first | exact Or.inl rfl | exact Or.inr rfl)) (pss_one (ps_if (PW.pt (pw_and (pt_val (pe_callB (show CallR _ _ (rIsi K) from call_isi) rfl T.b_isinstance bt_isinstance (pa_cons (pv 4) (pa_cons (pe_bltn (v := .ty "str") (u := .type "str") rfl T.b_str bt_str rfl) pa_nil)))) (pw_and (pt_val (pe_c D__law_wrong_signs (hr.mono (by decide)) pass0 (pa_cons (pv 4) (pa_cons (pe_cmpR (show OpR _ (compareOp .In) (rIn K false) from op_in_seq) (pe_ix (show IxR _ (rIxT K) from ix_tup) (pe_ix (show IxR _ (rIxT K) from ix_tup) (pe_ix (show IxR _ (rIxT K) from ix_tup) (pv 0) pe_int (fun _ _ => rfl)) (pv 3) (fun _ _ => rfl)) pe_int (fun _ _ => rfl)) (pe_tup (pa_cons pe_str (pa_cons pe_str pa_nil))) rfl) pa_nil)))) (pw_and1 (pt_cmpR op_isN (pv 2) pe_non (nomark _)))))) (pss_one (ps_set (i := 2) sc__law_due.nd rfl (by first | exact Or.inl rfl | exact Or.inr rfl) (pv 3))) pss_nil))))) (pss_cons (ps_setLc (i := 5) (own := [("_law_k", 3)]) rfl sc__law_due.nd rfl rfl (sw_true rfl rfl rfl (by decide +kernel)) (show PI _ _ _ (iTup K _) from pi_tup (pe_tup (pa_cons (pv 1) (pa_cons (pv 2) pa_nil)))) (blkOk_by (own := [("_law_k", 3)]) (N := ["_law_told", "_law_wrong", "_law_signs_here", "_law_k", "_law_part", "_law_some"]) (sc := defScope s__law_due) (by decide +kernel)) (fun _ _ _ _ _ => (pg_name (i := 3) sc__law_due.nd rfl (by first | exact Or.inl rfl | exact Or.inr rfl))) (fun _ _ _ _ _ => pts_one (pt_cmpR op_notN (pv 3) pe_non (nomark _))) (fun _ _ _ _ _ => (pv 3))) (pss_one (ps_ret (pe_ifExp (pt_cmpR (show OpR _ (compareOp .Eq) (rEqD K) from op_eqD hr.units) (pv 5) (pe_lst pa_nil) (nomark _)) (pe_op (show OpR _ (binaryOp .Add) (rCatA K) from op_catA) (pe_tup (pa_cons pe_str pa_nil)) (pv 0)) (pe_tup (pa_cons pe_str (pa_cons (pe_callB (cr_min rfl) rfl T.b_min bt_min (pa_cons (pv 5) pa_nil)) pa_nil))))))))))), ?_⟩
    walk_at "g1"
    walk_at "g1"
    walk_at "g1"
    rcases h with ⟨e, rfl, q⟩ | ⟨d, m, is, rfl, hd, ok, ei, q⟩
    · refine w_isi (b := true) rfl (.base (.int e)) (by decide +kernel) ⟨_, rfl, ifT rfl ?_⟩
      walk_at "gx"
      refine ⟨small (by simp), fun p n => ?_⟩
      generalize hE : upd H p _ = H1; obtain ⟨k1, g1⟩ := updN n hE
      exact q p H1 k1 (.tup (SqT.of g1) (.cons (.str _) (.cons (.int _) .nil)))
    · obtain ⟨ra, fa, ia, DD, h1, h2, h3, h4, h5, h6⟩ := hd.ex
      refine w_isi (b := false) rfl (tyT h1) (by decide +kernel) ⟨_, rfl, ifF rfl ?_⟩
      walk_at "gx"
      refine ⟨m.z, false, rfl, by have := ok.z.2.1; omega, fun c hc => abc_le (ok.z.2.2 c hc), fun H1 k1 => ⟨_, rfl, iteb (fun e => ?_) (fun e => ?_)⟩⟩
      · walk_at "gx"
        refine ⟨small (by simp), fun p n => ?_⟩
        generalize hE : upd H1 p _ = H2; obtain ⟨k2, g2⟩ := updN n hE
        have ef : dueD m is = .tuple [.str "InvalidMap", .int (-1)] := by
          unfold dueD faultOf
          rw [if_pos (.inl e)]
        refine q p H2 (fun b u z => k2 _ _ (k1 _ _ z)) ?_
        rw [ef]
        exact .tup (SqT.of g2) (.cons (.str _) (.cons (.int _) .nil))
      · walk_at "gx"
        refine ⟨d, m, is, rfl, ⟨ra, fa, ia, DD, Same.seqT k1 h1, Same.seqT k1 h2, Same.seqT k1 h3, Same.seqT k1 h4, h5, fun p hp => (h6 p hp).tup fun _ _ => Same.seqT k1⟩, ok, ei, fun H2 k2 => ?_⟩
        refine ⟨_, _, rfl, ?_⟩
        have s2 : Same H H2 := fun b u e => k2 _ _ (k1 _ _ e)
        have dl : DD.length = is.length := by
          have e := congrArg List.length h5
          rw [List.length_map, ei, List.length_map] at e
          exact e
        have n20 : is.length ≤ 20 := by
          have e := ok.n20
          rw [ei, List.length_map] at e
          exact e
        have h12 := Same.seqT s2 h1
        have h42 := Same.seqT s2 h4
        clear k1 k2
        walk_at "gx"
        refine lp_rng1 (n := is.length) (by rw [List.length_map, dl]) (by omega) (fun j σ H' => ∃ v3 v4, σ = [some (.ref d), some (wiV m.fs is), some (svV (firstNot (fun f => !wsF f) (is.take j))), v3, v4, none] ∧ Same H H')
          ⟨none, none, by rw [List.take_zero]; rfl, s2⟩ ?_ ?_
        · rintro i σ H3 hi ⟨v3, v4, rfl, s3⟩
          have hf := List.getElem?_eq_getElem hi
          generalize is[i] = f at hf
          have fm : f.ins ∈ m.is := by rw [ei]; exact List.mem_map.mpr ⟨f, List.mem_of_getElem? hf, rfl⟩
          have fok := (ok.is _ fm).f
          obtain ⟨a, ha, fat⟩ : ∃ a, (drefs DD)[i]? = some (.ref a) ∧ FAt K H3 a f := by
            have e : (DD.map (·.2))[i]? = some f.ins := by rw [h5, ei, List.getElem?_map, hf]; rfl
            rw [List.getElem?_map] at e
            cases e2 : DD[i]? with
            | none => rw [e2] at e; cases e
            | some p =>
              rw [e2] at e
              have e : some p.2 = some f.ins := e
              refine ⟨p.1, by rw [List.getElem?_map, e2]; rfl, ?_⟩
              have q := h6 p (List.mem_of_getElem? e2)
              rw [Option.some.inj e] at q
              exact (FAt.of q).same s3
          obtain ⟨ps, g, fps⟩ := fat.head
          have c1 := Same.seqT s3 h1
          have c4 := Same.seqT s3 h4
          walk_at "gx"
          refine w_ixT c4 (at_nat ha) ?_
          walk_at "gx"
          refine w_slA g fun pp H4 k4 g4 => ?_
          rw [cut1] at g4
          have fps4 := fps.same k4
          obtain ⟨p3, pv⟩ := fps4.parts fok
          have bad := fps4.bad
          have s4 : Same H H4 := fun b u e => k4 _ _ (s3 _ _ e)
          walk_at "gx"
          generalize hB : firstNot (fun f => !wsF f) (is.take i) = B
          refine lp_tup (xs := ps) g4 (fun n σ H' => ∃ v4, σ = [some (.ref d), some (wiV m.fs is), some (if B = none ∧ (ps.take n).any (partBad (wet f)) = true then .int i else svV B), some (.int i), v4, none] ∧ Same H4 H')
            ⟨v4, by rw [List.take_zero, if_neg (fun z => nomatch z.2)]; rfl, Same.refl _⟩ (fun n σ H' _ z => by obtain ⟨_, _, e⟩ := z; exact Same.seqT e g4) ?_ ?_
          · rintro n v σ H5 hv ⟨v5, rfl, s5⟩
            have tk : (ps.take (n + 1)).any (partBad (wet f)) = ((ps.take n).any (partBad (wet f)) || partBad (wet f) v) := by
              rw [List.take_succ, hv, List.any_append]
              simp
            have skip : partBad (wet f) v = false → (if B = none ∧ (ps.take (n + 1)).any (partBad (wet f)) = true then V.int i else svV B) = if B = none ∧ (ps.take n).any (partBad (wet f)) = true then V.int i else svV B := fun e => by rw [tk, e, Bool.or_false]
            rcases (pv v (List.mem_of_getElem? hv)).same s5 with ⟨x, rfl⟩ | ⟨l, rfl, ll, lc⟩ | ⟨t, ts, rfl, gt⟩
            · walk_at "g1"
              walk_at "g1"
              walk_at "g1"
              refine w_tB (w_isi (b := false) rfl (.base (.int x)) (by decide +kernel) ⟨_, rfl, ifF rfl (ifF rfl ?_)⟩)
              exact w_next ⟨_, by rw [skip rfl]; rfl, s5⟩
            · have s45 : Same H3 H5 := fun b u e => s5 _ _ (k4 _ _ e)
              have c15 := Same.seqT s45 c1
              have c45 := Same.seqT s45 c4
              have g5 := Same.seqT s45 g
              refine w_gname (w_ifS (w_and (w_tB (w_isi (b := true) rfl (.base (.str _)) (by decide +kernel) ⟨_, rfl, ifT rfl ?_⟩))))
              refine w_and (w_tB (w_call (w_cons (w_var rfl (w_cons (w_op (w_op (w_op (w_op (w_var rfl (w_c (w_ixT c15 rfl (w_var rfl (w_ixT c45 (at_nat ha) (w_c (w_ixT g5 atI_0 ?_))))))))))))))))
              refine w_tup (w_cons (w_c (w_cons (w_c (w_nil ⟨small (by simp), fun p8 n8 => ?_⟩)))))
              generalize hE8 : upd H5 p8 _ = H8; obtain ⟨k8, g8⟩ := updN n8 hE8
              refine ⟨p8, _, rfl, .inr (SqT.of g8), rfl, rfl, ?_⟩
              refine w_nil ⟨l, _, rfl, by omega, lc, fun H9 k9 => ⟨_, rfl, ?_⟩⟩
              have ew : (if false = true then !inV (.str (fw f)) [V.str "beside", V.str "near"] else inV (.str (fw f)) [V.str "beside", V.str "near"]) = wet f := by
                cases f with
                | til t l => cases t <;> rfl
                | _ => rfl
              rw [ew]
              have s9 : Same H4 H9 := fun b u e => k9 _ _ (k8 _ _ (s5 _ _ e))
              have pb : partBad (wet f) (.str (tx l)) = wS l (wet f) := by
                show wS (tx l).cps.toList (wet f) = _
                simp
              refine iteb (fun e => ?_) (fun e => ifF rfl (w_next ⟨_, by rw [skip (pb.trans e)]; rfl, s9⟩))
              have tk1 : (ps.take (n + 1)).any (partBad (wet f)) = true := by rw [tk, pb, e, Bool.or_true]
              refine w_test (w_op (w_var rfl (w_c ⟨rfl, _, rfl, ?_⟩)))
              by_cases hc : B = none ∧ (ps.take n).any (partBad (wet f)) = true
              · rw [if_pos hc]
                refine ifF rfl (w_next ⟨some (.str (tx l)), ?_, s9⟩)
                rw [if_pos ⟨hc.1, tk1⟩]
                rfl
              · rw [if_neg hc]
                cases B with
                | none =>
                  refine ifT rfl (w_asg (w_var rfl (w_gname ⟨some (.str (tx l)), ?_, s9⟩)))
                  rw [if_pos ⟨rfl, tk1⟩]
                  rfl
                | some k =>
                  refine ifF rfl (w_next ⟨some (.str (tx l)), ?_, s9⟩)
                  rw [if_neg fun z => nomatch z.1]
                  rfl
            · walk_at "g1"
              walk_at "g1"
              walk_at "g1"
              refine w_tB (w_isi (b := false) rfl (tyT gt) (by decide +kernel) ⟨_, rfl, ifF rfl (ifF rfl ?_)⟩)
              exact w_next ⟨_, by rw [skip rfl]; rfl, s5⟩
          · rintro σ H5 ⟨v5, rfl, s5⟩
            refine ⟨some (.int i), v5, ?_, fun b u e => s5 _ _ (s4 _ _ e)⟩
            rw [List.take_length, bad, firstNot_snoc hf, hB]
            cases B with
            | none => cases h : wsF f <;> simp [svV]
            | some k => simp [svV]
        · rintro σ H3 ⟨v3, v4, rfl, s3⟩
          rw [List.take_length]
          have c2 := Same.seqT s3 h2
          have c3 := Same.seqT s3 h3
          have c4 := Same.seqT s3 h4
          have c1 := Same.seqT s3 h1
          have c6 : ∀ p ∈ DD, InsAt K H3 p.1 p.2 := fun p hp => (h6 p hp).tup fun _ _ => Same.seqT s3
          walk_at "gx"
          refine ⟨small (by simp), fun p n => ?_⟩
          rw [wiV_ov, wsV_ov]
          generalize hE4 : upd H3 p _ = H4; obtain ⟨k4, g4⟩ := updN n hE4
          refine ⟨p, rfl, lc_tup (xs := [ov (wiO m.fs is), ov (wsO is)]) (SqT.of g4) (fun j D H' => H4 D = none ∧ Same H4 H' ∧ H' D = some (.lst (([ov (wiO m.fs is), ov (wsO is)].take j).filter fun v => !decide (v = V.non))))
            (fun D hD => ⟨hD, Same.updD (Same.refl _) hD, upd_same⟩) (fun j D H' _ z => Same.seqT z.2.1 (SqT.of g4)) ?_ ?_⟩
          · rintro j D H5 x hx ⟨hD, s5, g5⟩
            have tk : ([ov (wiO m.fs is), ov (wsO is)].take (j + 1)).filter (fun v => !decide (v = V.non)) = ([ov (wiO m.fs is), ov (wsO is)].take j).filter (fun v => !decide (v = V.non)) ++ [x].filter (fun v => !decide (v = V.non)) := by
              rw [List.take_succ, hx, List.filter_append]
              rfl
            refine w_gname ⟨rfl, w_test (w_op (w_var rfl (w_c ⟨rfl, _, rfl, ?_⟩)))⟩
            cases hb : (!decide (x = V.non)) with
            | true =>
              refine ifT rfl (w_var rfl ⟨_, g5, smallL (Nat.le_trans (List.length_filter_le _ _) (by rw [List.length_take]; simp; omega)), hD, Same.updD s5 hD, ?_⟩)
              rw [upd_same, tk]
              simp [List.filter, hb]
            | false =>
              refine ifF rfl ⟨hD, s5, ?_⟩
              rw [g5, tk]
              simp [List.filter, hb]
          · rintro D H5 ⟨hD, s5, g5⟩
            rw [show List.length [ov (wiO m.fs is), ov (wsO is)] = 2 from rfl, show List.take 2 [ov (wiO m.fs is), ov (wsO is)] = [ov (wiO m.fs is), ov (wsO is)] from rfl, ov_filter] at g5
            walk_at "gx"
            refine ⟨small (by simp), fun p6 n6 => ?_⟩
            generalize hE6 : upd H5 p6 _ = H6; obtain ⟨k6, g6⟩ := updN n6 hE6
            refine w_eqNil (dp_ints (SqL.of (k6 _ _ g5))) g6 (shp_ints _) (by decide) ⟨_, rfl, ?_⟩
            have s6 : Same H3 H6 := fun b u e => k6 _ _ (s5 _ _ (k4 _ _ e))
            rcases fault_min (m := m) (is := is) e with ⟨e1, e2, e3⟩ | ⟨k, e3, hk, hm⟩
            · rw [e1, e2]
              refine ifT rfl ?_
              walk_at "gx"
              refine ⟨small (by simp), fun p7 n7 => ?_⟩
              generalize hE7 : upd H6 p7 _ = H7; obtain ⟨k7, g7⟩ := updN n7 hE7
              refine w_var rfl ?_
              have s7 : Same H3 H7 := fun b u e => k7 _ _ (s6 _ _ e)
              refine w_catA (SqT.of g7) (Same.seqT s7 c1) (small (by simp)) fun p8 H8 k8 g8 => ?_
              have s8 : Same H3 H8 := fun b u e => k8 _ _ (s7 _ _ e)
              refine q p8 H8 (fun b u e => s8 _ _ (s3 _ _ e)) ?_
              have ed : dueD m is = chartD m := by unfold dueD; rw [e3]
              rw [ed]
              refine .tup g8 (.cons (.str _) (.cons (.tup (Same.seqT s8 c2) (dp_map fun r _ => .str _)) (.cons (.str _) (.cons (.tup (Same.seqT s8 c3) (dp_map fun x _ => .int x)) (.cons (.tup (Same.seqT s8 c4) ?_) .nil)))))
              rw [← h5]
              exact DL.dp fun p hp => (c6 p hp).tup fun _ _ => Same.seqT s8
            · refine ifF (by cases hL : (wiO m.fs is).toList ++ (wsO is).toList with | nil => rw [hL] at hk; cases hk | cons a r => rfl) ?_
              walk_at "gx"
              refine ⟨D, _, rfl, SqL.of (k6 _ _ g5), List.length_pos_of_mem hk, fun mm h1 h2 => ?_⟩
              have em : mm = k := Int.le_antisymm (h2 k hk) (hm mm h1)
              subst em
              walk_at "gx"
              refine ⟨small (by simp), fun p7 n7 => ?_⟩
              generalize hE7 : upd H6 p7 _ = H7; obtain ⟨k7, g7⟩ := updN n7 hE7
              refine q p7 H7 (fun b u e => k7 _ _ (s6 _ _ (s3 _ _ e))) ?_
              have ed : dueD m is = .tuple [.str "InvalidMap", .int mm] := by unfold dueD; rw [e3]
              rw [ed]
              exact .tup (SqT.of g7) (.cons (.str _) (.cons (.int _) .nil))
end
end
section
/-! ### the program's side: what stands behind the top -/
section
variable {P : Program} {w : World} {K : PySem.W.Frag} {mg : Str → Option Value} {base : Heap}
/-- the rule for a def that may raise -/
theorem DefAt.okX {x : Str} {st : Stmt} {N ps : List Str} {k : Nat} {sp : Sp} (D : DefAt K mg x st ps) (S : FnScope N ps (defScope st)) (len : ∀ vs H Q E, sp vs H Q E → vs.length = ps.length)
    (hbody : ∀ (f : Addr) (cdv : Value) (A : Around) (outer : List Env) (s : Shared) (H : Hp) (vs : List V) (Q : VK) (E : XK), Room k (A.deeper (envOfC x (defScope st) s.heap.objs.size f cdv)) → sp vs H Q E →
      ∃ t, PSs (cxOf (L2.CX P w) P w K mg base N x (defScope st) f cdv A outer s H E) (defBody st) t ∧ t { nx := fun _ H' => Q .non H', rt := Q } (start N vs) H) : DefOk P w K mg base (L2.CX P w) (k + 1) x sp := by
  obtain ⟨f, fd, F, hm, hb⟩ := D.ex
  exact ⟨f, fd, ps, F.okX S len (hbody f), hm, F.kp, hb⟩
/-- a method of a class, found -/
structure MetAt (K : PySem.W.Frag) (C : Addr) (m qual : Str) (st : Stmt) (ps : List Str) : Prop where
  ex : ∃ f fd, Fun K m qual st f fd ∧ Meth K C m f ∧ Binds K fd ps []
/-- .. with its promise -/
structure MetOk (P : Program) (w : World) (K : PySem.W.Frag) (mg : Str → Option Value) (base : Heap) (CX : CXT) (k : Nat) (C : Addr) (m : Str) (sp : Sp) : Prop where
  ex : ∃ f fd ps, FnOk P w K mg base CX k f fd ps sp ∧ Meth K C m f ∧ Binds K fd ps []
theorem MetAt.okX {C : Addr} {m qual : Str} {st : Stmt} {N ps : List Str} {k : Nat} {sp : Sp} (D : MetAt K C m qual st ps) (S : FnScope N ps (defScope st)) (len : ∀ vs H Q E, sp vs H Q E → vs.length = ps.length)
    (hbody : ∀ (f : Addr) (cdv : Value) (A : Around) (outer : List Env) (s : Shared) (H : Hp) (vs : List V) (Q : VK) (E : XK), Room k (A.deeper (envOfC qual (defScope st) s.heap.objs.size f cdv)) → sp vs H Q E →
      ∃ t, PSs (cxOf (L2.CX P w) P w K mg base N qual (defScope st) f cdv A outer s H E) (defBody st) t ∧ t { nx := fun _ H' => Q .non H', rt := Q } (start N vs) H) : MetOk P w K mg base (L2.CX P w) (k + 1) C m sp := by
  obtain ⟨f, fd, F, hm, hb⟩ := D.ex
  exact ⟨f, fd, ps, F.okX S len (hbody f), hm, hb⟩
theorem MetAt.ok {C : Addr} {m qual : Str} {st : Stmt} {N ps : List Str} {k : Nat} {sp : Sp} (D : MetAt K C m qual st ps) (S : FnScope N ps (defScope st)) (len : ∀ vs H Q E, sp vs H Q E → vs.length = ps.length)
    (hbody : ∀ (f : Addr) (cdv : Value) (A : Around) (outer : List Env) (s : Shared) (H : Hp) (vs : List V) (Q : VK) (E : XK), Room k (A.deeper (envOfC qual (defScope st) s.heap.objs.size f cdv)) → sp vs H Q E →
      ∃ t, PSs (cxOf CX0 P w K mg base N qual (defScope st) f cdv A outer s H E).nox (defBody st) t ∧ t { nx := fun _ H' => Q .non H', rt := Q } (start N vs) H) : MetOk P w K mg base CX0 (k + 1) C m sp := by
  obtain ⟨f, fd, F, hm, hb⟩ := D.ex
  exact ⟨f, fd, ps, F.ok S len (hbody f), hm, hb⟩
theorem DefOk.mono {CX : CXT} {j k : Nat} {x : Str} {sp : Sp} (D : DefOk P w K mg base CX j x sp) (h : j ≤ k) : DefOk P w K mg base CX k x sp := by
  obtain ⟨f, fd, ps, F, r⟩ := D.ex
  exact ⟨f, fd, ps, F.mono h, r⟩
end
/-- a statement that is never reached -/
theorem ps_not {X : Cx} {st : Stmt} : PS X st (fun _ _ _ => False) := ⟨fun _ _ _ _ _ _ h => h.elim⟩
/-! ### a slot's operator store -/
section
open SlX
/-- e.f op= value, f a slot -/
def sSlA (K : PySem.W.Frag) (ta tv : TE) (rd : V → V → Hp → VK → Prop) (f : Str) : TS := fun D σ H => ta σ H fun x H1 => ∃ a C dx p vs i v, x = .ref a ∧ Slt H1 a C dx vs ∧ SCls K C ∧ Slot1 K C f p i ∧ vs[i]? = some (some v) ∧
  tv σ H1 fun y H2 => rd v y H2 fun z H3 => ∃ vs', Slt H3 a C dx vs' ∧ D.nx σ (slH H3 a C dx (putS i z vs'))
theorem ps_slA {X : Cx} {o value : Expr} {op : Operator} {f : Str} {pos tpos : Pos} {ta tv : TE} {rd : V → V → Hp → VK → Prop} (ha : PE X o ta) (hv : PE X value tv) (hop : InOp X op rd) : PS X (.AugAssign (.Attribute o f tpos) op value pos) (sSlA X.K ta tv rd f) := by
  refine ⟨fun pins s σ H D I h => wpAny_AugAssign_AttributeAny (thn (ha.run pins s σ H _ I h) fun ov s1 hh => ?_)⟩
  obtain ⟨x, H1, I1, rx, a, C, dx, p, vs, i, v, rfl, hs, c, t, l, q⟩ := hh
  cases rx
  refine SlX.getslot_ok I1 hs c t l fun u s2 I2 ru => thn (hv.run pins s2 σ H1 _ I2 q) fun w3 s3 ⟨y, H2, I3, ry, q3⟩ => thn (hop pins s3 σ H2 v y u w3 _ I3 ru ry q3) fun w4 s4 ⟨z, H3, I4, rz, vs', hs', q4⟩ => ?_
  exact SlX.setslot_ok I4 hs' c t rz fun s5 I5 => ⟨σ, _, I5, q4⟩
end
section
variable {X : Cx} {CX : CXT} {k : Nat} {C : Addr} {m : Str} {sp : Sp} {E : XK} {o e : Expr} {es : List Expr} {pos apos : Pos} {ta : TE} {t : TA}
/-- o.m(e, ..), o of a class with slots -/
theorem pe_ms {pl : Sem Bool} (he : PE X o ta) (c : SlX.SCls X.K C) (D : MetOk X.prog X.w X.K X.mg X.base CX k C m sp) (hr : Room k X.A) (hx : Passes CX X E) (ha : PA X (e :: es) t)
    (hst : starEach (e :: es) X.env = (false, eval e X.env) :: starEach es X.env := by rfl) (hpl : (backTo pos (starEach es X.env)).any (·.1) = false := by rfl)
    (ht : eval (.Call (.Attribute o m apos) (e :: es) [] pos) X.env = (do
      let ov ← eval o X.env
      standAt apos.atName
      let (f, first) ← holding [ov] (getMethod ov m pl)
      callWith pos f first (backTo pos (starEach (e :: es) X.env)) (backToKw pos (keywordEach [] X.env))) := by rfl) :
    PE X (.Call (.Attribute o m apos) (e :: es) [] pos) (SlX.tMethSl C (fun vs H Q E => sp (vs ++ []) H Q E) E ta t) := by
  obtain ⟨f, fd, ps, F, hm, hb⟩ := D.ex
  exact SlX.pe_methSl (pl := pl) he c hm (F.raw hb .nil) hr hx ha hst hpl ht
theorem pe_ms0 {pl : Sem Bool} (he : PE X o ta) (c : SlX.SCls X.K C) (D : MetOk X.prog X.w X.K X.mg X.base CX k C m sp) (hr : Room k X.A) (hx : Passes CX X E)
    (ht : eval (.Call (.Attribute o m apos) [] [] pos) X.env = (do
      let ov ← eval o X.env
      standAt apos.atName
      let (f, first) ← holding [ov] (getMethod ov m pl)
      callWith pos f first (backTo pos (starEach [] X.env)) (backToKw pos (keywordEach [] X.env))) := by rfl) :
    PE X (.Call (.Attribute o m apos) [] [] pos) (SlX.tMethSl C (fun vs H Q E => sp (vs ++ []) H Q E) E ta tNil) := by
  obtain ⟨f, fd, ps, F, hm, hb⟩ := D.ex
  exact SlX.pe_methSl0 (pl := pl) he c hm (F.raw hb .nil) hr hx ht
/-- C(e, ..): an instance, by its __init__ -/
theorem pe_mk {x : Str} {p : Pos} (M : ∃ f, Mk X.K C f) (D : MetOk X.prog X.w X.K X.mg X.base CX k C "__init__" sp) (hr : Room (k + 1) X.A) (hm : X.mg x = some (.ref C)) (hx : Passes CX X E) (ha : PA X (e :: es) t) (hg : Gl X x := by rfl)
    (hdb : (x == ("__debug__" : Str)) = false := by decide) (he : starEach (e :: es) X.env = (false, eval e X.env) :: starEach es X.env := by rfl) (hpl : (backTo pos (starEach es X.env)).any (·.1) = false := by rfl) :
    PE X (.Call (.Name x p) (e :: es) [] pos) (tMake C sp [] E t) := by
  obtain ⟨f, fd, ps, F, ⟨h1, h2, h3⟩, hb⟩ := D.ex
  obtain ⟨g, M⟩ := M
  have e : g = f := by
    have z := M.init.symm.trans h1
    injection z with z
    injection z with z
    injection z
  subst e
  exact pe_make M F hr hg hm hb .nil hx ha hdb he hpl
end
/-! ### a text key of a dict of the top -/
def tKD (K : PySem.W.Frag) (d : Addr) (td ty : TE) : TE := fun σ H Q => td σ H fun x H1 => ty σ H1 fun y H2 => ∃ (z : Str) (u : Value) (v : V), x = .ref d ∧ y = .str z ∧ PySem.W.nsIn K d z = some (some u) ∧ RelV v u ∧ Q v H2
theorem pe_kd {X : Cx} {d : Addr} {es : Array DictEntry} {n : Nat} {o i : Expr} {td ty : TE} {pos : Pos} (D : KDict X.K X.w d es n) (ho : PE X o td) (hi : PE X i ty) (hs : NoSl i) : PE X (.Subscript o i pos) (tKD X.K d td ty) := by
  refine ⟨fun pins s σ H Q I h => subD_of PySem.F.slot_dict_getitem.lookup hs (thn (ho.run pins s σ H _ I h) fun u s1 hh => ?_)⟩
  obtain ⟨x, H1, I1, rx, q1⟩ := hh
  refine thn (hi.run pins s1 σ H1 _ I1 q1) fun iv s2 ⟨y, H2, I2, ry, z, uv, v, ex, ey, en, rv, q2⟩ => ?_
  have q3 := op_item_kd D pins s2 σ H2 x y u iv Q I2 rx ry ⟨z, uv, v, ex, ey, en, rv, q2⟩
  subst ex
  cases rx
  exact ⟨kd_type D I2, q3⟩
end
section
/-! ### the module's constants -/
structure PTxt (K : PySem.W.Frag) (mg : Str → Option Value) : Prop extends Txt K mg where
  LAND : ∃ u, mg "LAND" = some u ∧ RelV (.str ".") u
  WATER : ∃ u, mg "WATER" = some u ∧ RelV (.str "~") u
  LETTERS : ∃ u, mg "LETTERS" = some u ∧ RelV (.str "ABCDEFGHIJKLMNOPQRSTUVWXYZ") u
  SIGNS : ∃ u, mg "SIGNS" = some u ∧ RelV (.str ".~ABCDEFGHIJKLMNOPQRSTUVWXYZ") u
  MAX_SIZE : ∃ u, mg "MAX_SIZE" = some u ∧ RelV (.int 12) u
  TURN : ∃ u, mg "TURN" = some u ∧ RelV (.str "turn") u
  WALK : ∃ u, mg "WALK" = some u ∧ RelV (.str "walk") u
  UNTIL : ∃ u, mg "UNTIL" = some u ∧ RelV (.str "until") u
  TOWARD : ∃ u, mg "TOWARD" = some u ∧ RelV (.str "toward") u
  BESIDE : ∃ u, mg "BESIDE" = some u ∧ RelV (.str "beside") u
  NEAR : ∃ u, mg "NEAR" = some u ∧ RelV (.str "near") u
  MAX_FAR : ∃ u, mg "MAX_FAR" = some u ∧ RelV (.int 22) u
  RIGHT : ∃ u, mg "RIGHT" = some u ∧ RelV (.int 1) u
  LEFT : ∃ u, mg "LEFT" = some u ∧ RelV (.int 3) u
  MAX_INSTRUCTIONS : ∃ u, mg "MAX_INSTRUCTIONS" = some u ∧ RelV (.int 20) u
  FIRST : ∃ u, mg "FIRST" = some u ∧ RelV (.int 79) u
  MAX_CODE : ∃ u, mg "MAX_CODE" = some u ∧ RelV (.int 99) u
/-! ### is_rising -/
theorem pw_adj : ∀ {l : List Nat}, (∀ (m a b : Nat), l[m]? = some a → l[m + 1]? = some b → a < b) → l.Pairwise (· < ·)
  | [], _ => .nil
  | [x], _ => List.pairwise_singleton _ _
  | x :: y :: r, h => by
    have ih := pw_adj (l := y :: r) fun m a b h1 h2 => h (m + 1) a b h1 h2
    have xy := h 0 x y rfl rfl
    refine List.pairwise_cons.mpr ⟨fun z hz => ?_, ih⟩
    rcases List.mem_cons.mp hz with e | e
    · rw [e]; exact xy
    · exact Nat.lt_trans xy ((List.pairwise_cons.mp ih).1 z e)
/-- what zip(values, values[1:]) tells, one after the other -/
def risesA {α : Type} (lt : α → α → Bool) (l : List α) : List Bool := (List.range (l.length - 1)).map fun i => match l[i]?, l[i + 1]? with
  | some a, some b => lt a b
  | _, _ => true
theorem rises_all {α : Type} (lt : α → α → Bool) (l : List α) : (risesA lt l).all id = true ↔ ∀ (m : Nat) (a b : α), l[m]? = some a → l[m + 1]? = some b → lt a b = true := by
  unfold risesA
  rw [List.all_eq_true]
  constructor
  · intro h m a b h1 h2
    have hm := (List.getElem?_eq_some_iff.mp h2).1
    have z := h (match l[m]?, l[m + 1]? with | some a, some b => lt a b | _, _ => true) (List.mem_map.mpr ⟨m, List.mem_range.mpr (by omega), rfl⟩)
    rw [h1, h2] at z
    exact z
  · intro h x hx
    obtain ⟨m, hm, rfl⟩ := List.mem_map.mp hx
    have hm := List.mem_range.mp hm
    have e1 := List.getElem?_eq_getElem (l := l) (i := m) (by omega)
    have e2 := List.getElem?_eq_getElem (l := l) (i := m + 1) (by omega)
    have z := h m _ _ e1 e2
    rw [e1, e2]
    exact z
theorem risesA_snoc {α : Type} {lt : α → α → Bool} {l : List α} {i : Nat} {a b : α} (h1 : l[i]? = some a) (h2 : l[i + 1]? = some b) : (risesA lt l).take (i + 1) = (risesA lt l).take i ++ [lt a b] := by
  have hm := (List.getElem?_eq_some_iff.mp h2).1
  have e : (risesA lt l)[i]? = some (lt a b) := by
    unfold risesA
    rw [List.getElem?_map, List.getElem?_range (by omega)]
    show some (match l[i]?, l[i + 1]? with | some a, some b => lt a b | _, _ => true) = _
    rw [h1, h2]
  rw [List.take_succ, e]
  rfl
theorem cutD1 {xs : List V} : cutV xs (some 1) none = xs.drop 1 := by
  unfold cutV
  rw [show (1 : Int) = ((1 : Nat) : Int) from rfl, HT.sIx_none, HT.sIx_nat]
  rcases Nat.lt_or_ge xs.length 1 with h | h
  · have e : xs = [] := List.length_eq_zero_iff.mp (by omega)
    subst e
    rfl
  · rw [Nat.min_eq_left h, ← List.length_drop, List.take_length]
theorem cutS1 {l : List Nat} : cutS (tx l) (some 1) none = tx (l.drop 1) := by
  unfold cutS
  have e : (tx l).length = l.length := by show l.toArray.size = _; simp
  have e2 : (tx l).cps.toList = l := by simp
  rw [e, e2, show (1 : Int) = ((1 : Nat) : Int) from rfl, HT.sIx_none, HT.sIx_nat]
  rcases Nat.lt_or_ge l.length 1 with h | h
  · have e : l = [] := List.length_eq_zero_iff.mp (by omega)
    subst e
    rfl
  · rw [Nat.min_eq_left h, ← List.length_drop, List.take_length]
theorem rises_dec {l : List Nat} : (risesA (fun a b => decide (a < b)) l).all id = decide (l.Pairwise (· < ·)) := by
  rw [Bool.eq_iff_iff, rises_all, decide_eq_true_iff]
  constructor
  · exact fun h => pw_adj fun m a b h1 h2 => of_decide_eq_true (h m a b h1 h2)
  · intro h m a b h1 h2
    obtain ⟨l1, rfl⟩ := List.getElem?_eq_some_iff.mp h1
    obtain ⟨l2, rfl⟩ := List.getElem?_eq_some_iff.mp h2
    exact decide_eq_true (List.pairwise_iff_getElem.mp h m (m + 1) l1 l2 (Nat.lt_succ_self m))
theorem rises_decI {l : List Int} : (risesA (fun a b => decide (a < b)) l).all id = decide (l.Pairwise (· < ·)) := by
  rw [Bool.eq_iff_iff, rises_all, decide_eq_true_iff]
  exact ⟨fun h => pw_of_adj fun m a b h1 h2 => of_decide_eq_true (h m a b h1 h2), fun h m a b h1 h2 => decide_eq_true (adj_of_pw h h1 h2)⟩
theorem risesA_len {α : Type} (lt : α → α → Bool) (l : List α) : (risesA lt l).length = l.length - 1 := by
  unfold risesA
  rw [List.length_map, List.length_range]
theorem one_lt (a b : Nat) : decide ((sg a).cps.toList < (sg b).cps.toList) = decide (a < b) := by
  refine decide_eq_decide.mpr ?_
  show [a] < [b] ↔ a < b
  rw [List.cons_lt_cons_iff]
  constructor
  · rintro (h | ⟨_, h⟩)
    · exact h
    · exact absurd h (List.not_lt_nil _)
  · exact .inl
section
variable {P : Program} {w : World} {K : PySem.W.Frag} {mg : Str → Option Value} {base : Heap}
theorem w_iZS {ta : TA} {σ : St} {H : Hp} {R : It → Hp → Prop} (q : ta σ H fun vs H1 => ∃ x1 x2, vs = [.str x1, .str x2] ∧ R (ZS.ItzS x1 x2) H1) : ZS.iZipS ta σ H R := q
theorem w_iZA {ta : TA} {σ : St} {H : Hp} {R : It → Hp → Prop} (q : ta σ H fun vs H1 => ∃ a b xs ys, vs = [.ref a, .ref b] ∧ ((SqL K H1 a xs ∧ SqL K H1 b ys ∧ R (Itz K a b) H1) ∨ (SqT K H1 a xs ∧ SqT K H1 b ys ∧ R (RZ.ItzT K a b) H1))) : RZ.iZipA K ta σ H R := q
def spRisS : Sp := fun vs H Q _ => ∃ l : List Nat, vs = [.str (tx l)] ∧ l.length ≤ 1000 ∧ ∀ H', Same H H' → Q (.bl (decide (l.Pairwise (· < ·)))) H'
def spRisT (K : PySem.W.Frag) : Sp := fun vs H Q _ => ∃ (a : Addr) (ns : List Int), vs = [.ref a] ∧ SqT K H a (ns.map V.int) ∧ ns.length ≤ 1000 ∧ ∀ H', Same H H' → Q (.bl (decide (ns.Pairwise (· < ·)))) H'
abbrev s_is_rising : Stmt := top 26
theorem sc_is_rising : FnScope ["values", "one", "other"] ["values"] (defScope s_is_rising) := ⟨rfl, rfl, rfl, by decide +kernel, rfl, by decide +kernel, by decide +kernel⟩
theorem ok_risS (D : DefAt K mg "is_rising" s_is_rising ["values"]) (T : PTxt K mg) : DefOk P w K mg base CX0 1 "is_rising" spRisS := by
  refine D.ok sc_is_rising (fun vs H Q E h => ?_) (fun f cdv A outer s0 H vs Q E hr h => ?_)
  · obtain ⟨l, rfl, _⟩ := h
    rfl
  · obtain ⟨l, rfl, hl, q⟩ := h
    refine ⟨_, (pss_one (ps_ret (pe_callB (cr_all rfl) rfl T.b_all bt_all (pa_cons (pe_lc (own := [("one", 1), ("other", 2)]) rfl sc_is_rising.nd (ZS.pi_zipS (by rfl) T.b_zip (pa_cons (pv 0) (pa_cons (pe_slice sl_str (pv 0) (po_some pe_int) po_none) pa_nil))) (blkOk_by (own := [("one", 1), ("other", 2)]) (N := ["values", "one", "other"]) (sc := defScope s_is_rising) (by decide +kernel)) (fun _ _ _ _ _ => (show PG _ _ (gTup K 2 _) from pg_tup rfl (pgs_cons (pg_name (i := 1) sc_is_rising.nd rfl (by first | exact Or.inl rfl | exact Or.inr rfl)) (pgs_cons (pg_name (i := 2) sc_is_rising.nd rfl (by first | exact Or.inl rfl | exact Or.inr rfl)) pgs_nil)))) (fun _ _ _ _ _ => pts_nil) (fun _ _ _ _ _ => (pe_cmpR op_lt_str (pv 1) (pv 2) (nomark _)))) pa_nil)))), ?_⟩
    have ll : (tx l).cps.size = l.length := by simp
    have ld : (tx (l.drop 1)).cps.size = l.length - 1 := by simp
    have rl := risesA_len (fun a b : Nat => decide (a < b)) l
    walk_at "gx"
    refine w_iZS (w_cons (w_var rfl (w_cons (w_sl (w_var rfl (w_part (w_c ⟨1, rfl, w_noPart ⟨_, rfl, small (by rw [show (tx l).length = l.length from ll]; omega), ?_⟩⟩)))))))
    rw [cutS1]
    refine w_nil ⟨_, _, rfl, lc_of (n := l.length - 1) (fun i D H' => H D = none ∧ Same H H' ∧ H' D = some (.lst (((risesA (fun a b => decide (a < b)) l).take i).map V.bl)))
      (fun D hD => ⟨hD, Same.updD (Same.refl _) hD, upd_same⟩) (fun D H' _ => ⟨by rw [ll]; omega, by rw [ld]; exact Nat.le_refl _, .inr ld.symm⟩) (fun i D H' hi _ => ⟨by rw [ll]; omega, by rw [ld]; omega⟩) ?_ ?_⟩
    · rintro i D H0 x H' hi ⟨hD, s, g⟩ ⟨T, c1, c2, rfl, nT, rfl, h1, h2⟩
      have h1 : l[i]? = some c1 := by
        have z : l.toArray[i]? = some c1 := h1
        rwa [List.getElem?_toArray] at z
      have h2 : l[i + 1]? = some c2 := by
        have z : (l.drop 1).toArray[i]? = some c2 := h2
        rw [List.getElem?_toArray, List.getElem?_drop, Nat.add_comm] at z
        exact z
      refine w_gtup (SqT.of upd_same) rfl (w_gcons (w_gname (w_gcons (w_gname (w_gnil ⟨rfl, w_yes (iteT ?_)⟩)))))
      refine w_op (w_var rfl (w_var rfl ⟨_, _, rfl, rfl, ?_⟩))
      rw [show decide ((sg c1).cps.toList < (sg c2).cps.toList) = decide (c1 < c2) from one_lt c1 c2]
      have neD : D ≠ T := fun e => by rw [e, nT] at g; cases g
      refine ⟨_, by rw [upd_ne neD]; exact g, smallL (by simp; omega), hD, Same.updD (fun b u e => by rw [upd_ne (ne_of_none (s b u e) nT)]; exact s b u e) hD, ?_⟩
      rw [upd_same, risesA_snoc h1 h2, List.map_append]
      rfl
    · rintro D H' ⟨hD, s, g⟩
      rw [← rl, List.take_length] at g
      refine w_nil ⟨D, _, rfl, SqL.of g, ?_⟩
      rw [rises_dec]
      exact q H' s
theorem ok_risT (D : DefAt K mg "is_rising" s_is_rising ["values"]) (T : PTxt K mg) : DefOk P w K mg base CX0 1 "is_rising" (spRisT K) := by
  refine D.ok sc_is_rising (fun vs H Q E h => ?_) (fun f cdv A outer s0 H vs Q E hr h => ?_)
  · obtain ⟨a, ns, rfl, _⟩ := h
    rfl
  · obtain ⟨a, ns, rfl, ha, hl, q⟩ := h
    refine ⟨_, (pss_one (ps_ret (pe_callB (cr_all rfl) rfl T.b_all bt_all (pa_cons (pe_lc (own := [("one", 1), ("other", 2)]) rfl sc_is_rising.nd (RZ.pi_zipA (by rfl) T.b_zip (pa_cons (pv 0) (pa_cons (pe_slice (show SlR _ (rSlA K) from sl_tupA) (pv 0) (po_some pe_int) po_none) pa_nil))) (blkOk_by (own := [("one", 1), ("other", 2)]) (N := ["values", "one", "other"]) (sc := defScope s_is_rising) (by decide +kernel)) (fun _ _ _ _ _ => (show PG _ _ (gTup K 2 _) from pg_tup rfl (pgs_cons (pg_name (i := 1) sc_is_rising.nd rfl (by first | exact Or.inl rfl | exact Or.inr rfl)) (pgs_cons (pg_name (i := 2) sc_is_rising.nd rfl (by first | exact Or.inl rfl | exact Or.inr rfl)) pgs_nil)))) (fun _ _ _ _ _ => pts_nil) (fun _ _ _ _ _ => (pe_cmpR op_lt (pv 1) (pv 2) (nomark _)))) pa_nil)))), ?_⟩
    have rl := risesA_len (fun a b : Int => decide (a < b)) ns
    walk_at "gx"
    refine w_iZA (w_cons (w_var rfl (w_cons (w_sl (w_var rfl (w_part (w_c ⟨1, rfl, w_noPart (w_slA ha fun p H1 k1 g1 => ?_)⟩)))))))
    rw [cutD1] at g1
    have a1 := Same.seqT k1 ha
    refine w_nil ⟨a, p, _, _, rfl, .inr ⟨a1, g1, lc_of (n := ns.length - 1) (fun i D H' => H1 D = none ∧ Same H1 H' ∧ H' D = some (.lst (((risesA (fun a b => decide (a < b)) ns).take i).map V.bl)))
      (fun D hD => ⟨hD, Same.updD (Same.refl _) hD, upd_same⟩) (fun D H' z => ⟨_, _, Same.seqT z.2.1 a1, Same.seqT z.2.1 g1, .inr (by simp)⟩) (fun i D H' hi z => ?_) ?_ ?_⟩⟩
    · have e1 := List.getElem?_eq_getElem (l := ns) (i := i) (by omega)
      have e2 := List.getElem?_eq_getElem (l := ns) (i := i + 1) (by omega)
      exact ⟨_, _, .int ns[i], .int ns[i + 1], Same.seqT z.2.1 a1, Same.seqT z.2.1 g1, by rw [List.getElem?_map, e1]; rfl, by rw [List.getElem?_drop, Nat.add_comm, List.getElem?_map, e2]; rfl⟩
    · rintro i D H0 x H' hi ⟨hD, s, g⟩ ⟨T, x1, x2, rfl, nT, rfl, h1, h2⟩
      have e1 := List.getElem?_eq_getElem (l := ns) (i := i) (by omega)
      have e2 := List.getElem?_eq_getElem (l := ns) (i := i + 1) (by omega)
      have h1 := h1 _ (Same.seqT s a1)
      have h2 := h2 _ (Same.seqT s g1)
      rw [List.getElem?_map, e1] at h1
      rw [List.getElem?_drop, Nat.add_comm, List.getElem?_map, e2] at h2
      cases h1
      cases h2
      refine w_gtup (SqT.of upd_same) rfl (w_gcons (w_gname (w_gcons (w_gname (w_gnil ⟨rfl, w_yes (iteT ?_)⟩)))))
      refine w_op (w_var rfl (w_var rfl (w_I0 ?_)))
      have neD : D ≠ T := fun e => by rw [e, nT] at g; cases g
      refine ⟨_, by rw [upd_ne neD]; exact g, smallL (by simp; omega), hD, Same.updD (fun b u e => by rw [upd_ne (ne_of_none (s b u e) nT)]; exact s b u e) hD, ?_⟩
      rw [upd_same, risesA_snoc e1 e2, List.map_append]
      rfl
    · rintro D H' ⟨hD, s, g⟩
      rw [← rl, List.take_length] at g
      refine w_nil ⟨D, _, rfl, SqL.of g, ?_⟩
      rw [rises_decI]
      exact q H' fun b u e => s _ _ (k1 _ _ e)
end
end
section
/-! ### are_signs, are_turns, is_instruction -/
def sgOk (l kn : List Nat) : Bool := decide (0 < l.length) && (decide (l.Pairwise (· < ·)) && l.all fun c => decide (c ∈ kn))
def tnOk (ns : List Int) : Bool := decide (0 < ns.length) && ((ns.all fun t => isNum (.int t) 0 3) && decide (ns.Pairwise (· < ·)))
theorem filter_empty {α : Type} (g : α → Bool) (l : List α) : (l.filter fun x => !g x).isEmpty = l.all g := by
  induction l with
  | nil => rfl
  | cons x r ih =>
    rw [List.all_cons, ← ih, List.filter_cons]
    cases g x <;> rfl
theorem filter_snoc {α : Type} {g : α → Bool} {l : List α} {i : Nat} {x : α} (h : l[i]? = some x) : (l.take (i + 1)).filter g = (l.take i).filter g ++ if g x = true then [x] else [] := by
  rw [List.take_succ, h, List.filter_append]
  congr 1
  cases e : g x <;> simp [List.filter, e]
section
variable {P : Program} {w : World} {K : PySem.W.Frag} {mg : Str → Option Value} {base : Heap}
def spSgs : Sp := fun vs H Q _ => ∃ (l : List Nat) (z : Str), vs = [.str (tx l), .str z] ∧ l.length ≤ 1000 ∧ (∀ c ∈ l, c ≤ 126) ∧ ∀ H', Same H H' → Q (.bl (sgOk l z.cps.toList)) H'
abbrev s_are_signs : Stmt := top 27
theorem sc_are_signs : FnScope ["signs", "known", "sign"] ["signs", "known"] (defScope s_are_signs) := ⟨rfl, rfl, rfl, by decide +kernel, rfl, by decide +kernel, by decide +kernel⟩
theorem ok_are_signs (D : DefAt K mg "are_signs" s_are_signs ["signs", "known"]) (T : PTxt K mg) (D_is_rising : DefOk P w K mg base CX0 1 "is_rising" spRisS) : DefOk P w K mg base CX0 2 "are_signs" spSgs := by
  refine D.ok sc_are_signs (fun vs H Q E h => ?_) (fun f cdv A outer s0 H vs Q E hr h => ?_)
  · obtain ⟨l, z, rfl, _⟩ := h
    rfl
  · obtain ⟨l, z, rfl, hl, hc, q⟩ := h
    refine ⟨_, (pss_one (ps_ret (pe_and (pe_cmpR op_gt (pe_callB call_len_str rfl T.b_len bt_len (pa_cons (pv 0) pa_nil)) pe_int (nomark _)) (pe_and (pe_c D_is_rising (hr.mono (by decide)) pass0 (pa_cons (pv 0) pa_nil)) (pe_one (pe_cmpR (show OpR _ (compareOp .Eq) (rEqD K) from op_eqD hr.units) (pe_lc (own := [("sign", 2)]) rfl sc_are_signs.nd (pi_str (pv 0)) (blkOk_by (own := [("sign", 2)]) (N := ["signs", "known", "sign"]) (sc := defScope s_are_signs) (by decide +kernel)) (fun _ _ _ _ _ => (pg_name (i := 2) sc_are_signs.nd rfl (by first | exact Or.inl rfl | exact Or.inr rfl))) (fun _ _ _ _ _ => pts_one (pt_cmpR op_notIn_sign (pv 2) (pv 1) rfl)) (fun _ _ _ _ _ => (pv 2))) (pe_lst pa_nil) (nomark _))))))), ?_⟩
    have ll : (tx l).length = l.length := by show l.toArray.size = _; simp
    have ls : (tx l).cps.size = l.length := by simp
    have lt : (tx l).cps.toList = l := by simp
    walk_at "gx"
    refine ⟨small (by omega), w_c (w_I0 ⟨_, rfl, ?_⟩)⟩
    rw [ll]
    unfold sgOk at q
    refine ited (fun h0 => ?_) (fun h0 => ?_)
    · rw [decide_eq_true (show 0 < l.length by omega), Bool.true_and] at q
      refine w_andV (w_call (w_cons (w_var rfl (w_nil ⟨l, rfl, hl, fun H1 k1 => ⟨_, rfl, ited (fun hp => ?_) (fun hp => ?_)⟩⟩))))
      · rw [decide_eq_true hp, Bool.true_and] at q
        refine w_op (w_lc (w_iStr (w_var rfl ⟨_, rfl, lc_str (fun i D H' => H1 D = none ∧ Same H1 H' ∧ H' D = some (.lst (((l.take i).filter fun c => !decide (c ∈ z.cps.toList)).map fun c => V.str (sg c))))
          (fun D hD => ⟨hD, Same.updD (Same.refl _) hD, upd_same⟩) ?_ ?_⟩)))
        · rintro i D H0 c hci ⟨hD, s, g⟩
          rw [lt] at hci
          have fs := filter_snoc (g := fun c => !decide (c ∈ z.cps.toList)) hci
          refine w_gname ⟨rfl, w_test (w_op (w_var rfl (w_var rfl ⟨c, z, rfl, rfl, _, rfl, ?_⟩)))⟩
          have hi := (List.getElem?_eq_some_iff.mp hci).1
          cases e : (!decide (c ∈ z.cps.toList)) with
          | true =>
            refine iteT (w_var rfl ⟨_, g, smallL ?_, hD, Same.updD s hD, ?_⟩)
            · rw [List.length_map]
              exact Nat.le_trans (List.length_filter_le _ _) (by rw [List.length_take]; omega)
            · rw [upd_same, fs, e, if_pos rfl, List.map_append]
              rfl
          | false =>
            refine iteF ⟨hD, s, ?_⟩
            rw [g, fs, e, if_neg (by decide), List.append_nil]
        · rintro D H2 ⟨hD, s, g⟩
          rw [ls, List.take_length] at g
          refine w_lst (w_nil ⟨small (by simp), fun p3 n3 => ?_⟩)
          generalize hE3 : upd H2 p3 _ = H3; obtain ⟨k3, g3⟩ := updN n3 hE3
          refine w_eqNil (ds := sgD (l.filter fun c => !decide (c ∈ z.cps.toList))) (.lst (SqL.of (k3 _ _ g)) (dp_map (g := fun c => PyData.str (sg c)) fun x _ => .str _)) g3 (n := 1) (fun x hx => ?_) (by decide) ?_
          · obtain ⟨c, hc', rfl⟩ := List.mem_map.mp hx
            exact can_sg c (hc c (List.mem_filter.mp hc').1)
          · have e : (sgD (l.filter fun c => !decide (c ∈ z.cps.toList))).isEmpty = l.all fun c => decide (c ∈ z.cps.toList) := by
              rw [List.isEmpty_map]
              exact filter_empty (fun c => decide (c ∈ z.cps.toList)) l
            rw [e]
            exact q H3 fun b u z => k3 _ _ (s _ _ (k1 _ _ z))
      · rw [decide_eq_false hp] at q
        exact q H1 k1
    · rw [decide_eq_false (show ¬ 0 < l.length by omega)] at q
      exact q H (Same.refl _)
def spTns (K : PySem.W.Frag) : Sp := fun vs H Q _ => ∃ (a : Addr) (ns : List Int), vs = [.ref a] ∧ SqT K H a (ns.map V.int) ∧ ns.length ≤ 1000 ∧ ∀ H', Same H H' → Q (.bl (tnOk ns)) H'
abbrev s_are_turns : Stmt := top 28
theorem sc_are_turns : FnScope ["turns", "turn"] ["turns"] (defScope s_are_turns) := ⟨rfl, rfl, rfl, by decide +kernel, rfl, by decide +kernel, by decide +kernel⟩
theorem ok_are_turns (D : DefAt K mg "are_turns" s_are_turns ["turns"]) (T : PTxt K mg) (D_is_rising : DefOk P w K mg base CX0 1 "is_rising" (spRisT K)) (D_is_number : DefOk P w K mg base CX0 1 "is_number" spNumber) : DefOk P w K mg base CX0 2 "are_turns" (spTns K) := by
  refine D.ok sc_are_turns (fun vs H Q E h => ?_) (fun f cdv A outer s0 H vs Q E hr h => ?_)
  · obtain ⟨a, ns, rfl, _⟩ := h
    rfl
  · obtain ⟨a, ns, rfl, ha, hl, q⟩ := h
    refine ⟨_, (pss_one (ps_ret (pe_and (pe_cmpR op_gt (pe_callB (show CallR _ _ (rLen K) from call_lenK) rfl T.b_len bt_len (pa_cons (pv 0) pa_nil)) pe_int (nomark _)) (pe_and (pe_cmpR (show OpR _ (compareOp .Eq) (rEqD K) from op_eqD hr.units) (pe_lc (own := [("turn", 1)]) rfl sc_are_turns.nd (show PI _ _ _ (iTup K _) from pi_tup (pv 0)) (blkOk_by (own := [("turn", 1)]) (N := ["turns", "turn"]) (sc := defScope s_are_turns) (by decide +kernel)) (fun _ _ _ _ _ => (pg_name (i := 1) sc_are_turns.nd rfl (by first | exact Or.inl rfl | exact Or.inr rfl))) (fun _ _ _ _ _ => pts_one (pt_not (pt_val (pe_c D_is_number (hr.mono (by decide)) pass0 (pa_cons (pv 1) (pa_cons pe_int (pa_cons pe_int pa_nil))))))) (fun _ _ _ _ _ => (pv 1))) (pe_lst pa_nil) (nomark _)) (pe_one (pe_c D_is_rising (hr.mono (by decide)) pass0 (pa_cons (pv 0) pa_nil))))))), ?_⟩
    walk_at "g1"
    walk_at "g1"
    refine w_andV (w_op (w_cb (w_cons (w_var rfl (w_nil (w_lenT ha (w_c (w_I0 ⟨_, rfl, ?_⟩))))))))
    rw [List.length_map]
    unfold tnOk at q
    refine ited (fun h0 => ?_) (fun h0 => ?_)
    · rw [decide_eq_true (show 0 < ns.length by omega), Bool.true_and] at q
      refine w_andV (w_op (w_lc (w_iTup (w_var rfl ⟨a, rfl, lc_tup ha (fun i D H' => H D = none ∧ Same H H' ∧ H' D = some (.lst (((ns.take i).filter fun t => !isNum (.int t) 0 3).map V.int)))
        (fun D hD => ⟨hD, Same.updD (Same.refl _) hD, upd_same⟩) (fun i D H' _ z => Same.seqT z.2.1 ha) ?_ ?_⟩))))
      · rintro i D H0 x hx ⟨hD, s, g⟩
        rw [List.getElem?_map] at hx
        cases ht : ns[i]? with
        | none => rw [ht] at hx; cases hx
        | some t =>
          rw [ht] at hx
          cases hx
          have fs := filter_snoc (g := fun t => !isNum (.int t) 0 3) ht
          have hi := (List.getElem?_eq_some_iff.mp ht).1
          refine w_gname ⟨rfl, w_not (w_test (w_call (w_cons (w_var rfl (w_cons (w_c (w_cons (w_c (w_nil ⟨.int t, 0, 3, rfl, rfl, _, rfl, ?_⟩))))))))) ⟩
          cases e : isNum (.int t) 0 3 with
          | false =>
            refine iteT (w_var rfl ⟨_, g, smallL ?_, hD, Same.updD s hD, ?_⟩)
            · rw [List.length_map]
              exact Nat.le_trans (List.length_filter_le _ _) (by rw [List.length_take]; omega)
            · rw [upd_same, fs, e, if_pos (by rfl), List.map_append]
              rfl
          | true =>
            refine iteF ⟨hD, s, ?_⟩
            rw [g, fs, e, if_neg (by decide), List.append_nil]
      · rintro D H2 ⟨hD, s, g⟩
        rw [List.length_map, List.take_length] at g
        refine w_lst (w_nil ⟨small (by simp), fun p3 n3 => ?_⟩)
        generalize hE3 : upd H2 p3 _ = H3; obtain ⟨k3, g3⟩ := updN n3 hE3
        refine w_eqNil (dp_ints (SqL.of (k3 _ _ g))) g3 (shp_ints _) (by decide) ⟨_, rfl, ?_⟩
        have s3 : Same H H3 := fun b u z => k3 _ _ (s _ _ z)
        rw [List.isEmpty_map, filter_empty (fun t => isNum (.int t) 0 3) ns]
        refine iteb (fun e => ?_) (fun e => ?_)
        · rw [e, Bool.true_and] at q
          exact w_call (w_cons (w_var rfl (w_nil ⟨a, ns, rfl, Same.seqT s3 ha, hl, fun H4 k4 => q H4 fun b u z => k4 _ _ (s3 _ _ z)⟩)))
        · rw [e] at q
          exact q H3 s3
    · rw [decide_eq_false (show ¬ 0 < ns.length by omega)] at q
      exact q H (Same.refl _)
end
/-! ### what is good: the program's reading and the law's agree -/
theorem uniq_self {l : List Nat} : l = S7.uniq l ↔ l.Pairwise (· < ·) := by
  constructor
  · intro h
    rw [h]
    exact S7.uniq_lt l
  · intro h
    have lift : ∀ {m : List Nat}, m.Pairwise (· < ·) → (m.map Int.ofNat).Pairwise (· < ·) := fun {m} p => by
      rw [List.pairwise_map]
      exact p.imp fun h => Int.ofNat_lt.mpr h
    have z := same_sorted (lift h) (lift (S7.uniq_lt l)) fun k => by
      rw [List.mem_map, List.mem_map]
      exact ⟨fun ⟨n, hn, e⟩ => ⟨n, (S7.uniq_mem l n).mpr hn, e⟩, fun ⟨n, hn, e⟩ => ⟨n, (S7.uniq_mem l n).mp hn, e⟩⟩
    exact (List.map_inj_right fun a b e => Int.ofNat.inj e).mp z
abbrev landL : List Nat := [46, 65, 66, 67, 68, 69, 70, 71, 72, 73, 74, 75, 76, 77, 78, 79, 80, 81, 82, 83, 84, 85, 86, 87, 88, 89, 90]
theorem sgOk_dry {l : List Nat} (h : SgsOk l) : sgOk l landL = !wS l false := by
  unfold sgOk wS
  rw [decide_eq_true (show 0 < l.length by have := h.1; omega), Bool.true_and, Bool.eq_iff_iff]
  simp only [uniq_self, Bool.and_eq_true, decide_eq_true_iff, List.all_eq_true, Bool.not_eq_true', Bool.or_eq_false_iff, Bool.not_false, Bool.and_true, decide_eq_false_iff_not, Bool.not_eq_false']
  constructor
  · rintro ⟨h1, h2⟩
    exact ⟨fun z => absurd (h2 126 z) (by decide), h1⟩
  · rintro ⟨h1, h2⟩
    refine ⟨h2, fun c hc => ?_⟩
    have z := h.2.2 c hc
    have e : c ≠ 126 := fun e => h1 (e ▸ hc)
    simp [abcL] at z
    simp [landL]
    omega
theorem sgOk_wet {l : List Nat} (h : SgsOk l) : sgOk l (landL ++ [126]) = !wS l true := by
  unfold sgOk wS
  rw [decide_eq_true (show 0 < l.length by have := h.1; omega), Bool.true_and, Bool.eq_iff_iff]
  simp only [uniq_self, Bool.and_eq_true, decide_eq_true_iff, List.all_eq_true, Bool.not_eq_true', Bool.or_eq_false_iff, Bool.not_true, Bool.and_false, decide_eq_false_iff_not, Bool.not_eq_false', true_and]
  constructor
  · exact fun h => h.1
  · intro h1
    refine ⟨h1, fun c hc => ?_⟩
    have z := h.2.2 c hc
    simp [abcL] at z
    simp [landL]
    omega
theorem tnOk_is {ns : List Int} (h : TnsOk ns) : tnOk ns = decide (ns.Pairwise (· < ·)) := by
  unfold tnOk
  rw [decide_eq_true (show 0 < ns.length by have := h.1; omega), Bool.true_and, List.all_eq_true.mpr fun t ht => ?_, Bool.true_and]
  have z := h.2.2 t ht
  show (decide (0 ≤ t) && decide (t ≤ 3)) = true
  rw [decide_eq_true z.1, decide_eq_true z.2]
  rfl
end
section
/-! ### is_instruction -/
theorem FPs.short {K : PySem.W.Frag} {H : Hp} {ps : List V} {f : InF} (h : FPs K H ps f) : ps.length ≤ 3 := by
  cases f with
  | turn ts => obtain ⟨t, e, _⟩ := h; rw [e]; simp
  | _ => rw [show ps = _ from h]; simp
theorem dry_cps : ((("." : Str) ++ "ABCDEFGHIJKLMNOPQRSTUVWXYZ" : Str)).cps.toList = landL := by decide +kernel
theorem wet_cps : (((("." : Str) ++ "ABCDEFGHIJKLMNOPQRSTUVWXYZ") ++ "~" : Str)).cps.toList = landL ++ [126] := by decide +kernel
theorem dry_len : (("." : Str)).length + ("ABCDEFGHIJKLMNOPQRSTUVWXYZ" : Str).length ≤ 1000000 := by decide +kernel
theorem wet_len : ((("." : Str) ++ "ABCDEFGHIJKLMNOPQRSTUVWXYZ" : Str)).length + ("~" : Str).length ≤ 1000000 := by decide +kernel
theorem w_nt {σ : St} {H : Hp} {D : Ends} {i : Nat} {x c : Str} {t1 : TS} (e : σ[i]? = some (some (.str x))) (n : x ≠ c) (q : D.nx σ H) : tIfS (tTest (tOp rEq (tVar i) (tC (.str c)))) t1 tNext D σ H :=
  w_ifS (w_test (w_op (w_var e (w_c (w_eq rfl ⟨_, rfl, wdF n (w_next q)⟩)))))
theorem w_yt {σ : St} {H : Hp} {D : Ends} {i : Nat} {x c : Str} {t1 t2 : TS} (e : σ[i]? = some (some (.str x))) (n : x = c) (q : t1 D σ H) : tIfS (tTest (tOp rEq (tVar i) (tC (.str c)))) t1 t2 D σ H :=
  w_ifS (w_test (w_op (w_var e (w_c (w_eq rfl ⟨_, rfl, wdT n q⟩)))))
section
variable {P : Program} {w : World} {K : PySem.W.Frag} {mg : Str → Option Value} {base : Heap}
def spIns (K : PySem.W.Frag) : Sp := fun vs H Q _ => ∃ (a : Addr) (f : InF), vs = [.ref a] ∧ FAt K H a f ∧ f.Ok ∧ ∀ H', Same H H' → Q (.bl (good f && !wsF f)) H'
abbrev s_is_instruction : Stmt := top 30
theorem sc_is_instruction : FnScope ["instruction", "word", "parts"] ["instruction"] (defScope s_is_instruction) := ⟨rfl, rfl, rfl, by decide +kernel, rfl, by decide +kernel, by decide +kernel⟩
theorem ok_is_instruction (D : DefAt K mg "is_instruction" s_is_instruction ["instruction"]) (T : PTxt K mg) (D_are_turns : DefOk P w K mg base CX0 2 "are_turns" (spTns K)) (D_are_signs : DefOk P w K mg base CX0 2 "are_signs" spSgs)
    (D_is_number : DefOk P w K mg base CX0 1 "is_number" spNumber) (D_is_range : DefOk P w K mg base CX0 2 "is_range" spRange) : DefOk P w K mg base CX0 3 "is_instruction" (spIns K) := by
  refine D.ok sc_is_instruction (fun vs H Q E h => ?_) (fun f cdv A outer s0 H vs Q E hr h => ?_)
  · obtain ⟨a, f, rfl, _⟩ := h
    rfl
  · obtain ⟨a, f, rfl, fa, fok, q⟩ := h
    refine ⟨_, (pss_cons (ps_asg (pv 0) (pg_star rfl (pgs_cons (pg_name (i := 1) sc_is_instruction.nd rfl (by first | exact Or.inl rfl | exact Or.inr rfl)) (pgs_cons (pg_name (i := 2) sc_is_instruction.nd rfl (by first | exact Or.inl rfl | exact Or.inr rfl)) pgs_nil)))) (pss_cons (ps_if (pt_cmpR op_eq (pv 1) (pe_k T.TURN) (nomark _)) (pss_one (ps_ret (pe_c D_are_turns (hr.mono (by decide)) pass0 (pa_cons (pe_ix (show IxR _ (rIxL K) from ix_list) (pv 2) pe_int (fun _ _ => rfl)) pa_nil)))) pss_nil) (pss_cons (ps_if (pt_cmpR op_eq (pv 1) (pe_k T.WALK) (nomark _)) (pss_one (ps_ret (pe_c D_is_range (hr.mono (by decide)) pass0 (pa_cons (pe_ix (show IxR _ (rIxL K) from ix_list) (pv 2) pe_int (fun _ _ => rfl)) (pa_cons (pe_ix (show IxR _ (rIxL K) from ix_list) (pv 2) pe_int (fun _ _ => rfl)) pa_nil))))) pss_nil) (pss_cons (ps_if (pt_cmpR (show OpR _ (compareOp .In) (rIn K false) from op_in_seq) (pv 1) (pe_tup (pa_cons (pe_k T.UNTIL) (pa_cons (pe_k T.TOWARD) pa_nil))) rfl) (pss_one (ps_ret (pe_c D_are_signs (hr.mono (by decide)) pass0 (pa_cons (pe_ix (show IxR _ (rIxL K) from ix_list) (pv 2) pe_int (fun _ _ => rfl)) (pa_cons (pe_op op_add_str (pe_k T.LAND) (pe_k T.LETTERS)) pa_nil))))) pss_nil) (pss_cons (ps_if (pt_cmpR op_eq (pv 1) (pe_k T.BESIDE) (nomark _)) (pss_one (ps_ret (pe_and (pe_c D_is_number (hr.mono (by decide)) pass0 (pa_cons (pe_ix (show IxR _ (rIxL K) from ix_list) (pv 2) pe_int (fun _ _ => rfl)) (pa_cons pe_int (pa_cons pe_int pa_nil)))) (pe_one (pe_c D_are_signs (hr.mono (by decide)) pass0 (pa_cons (pe_ix (show IxR _ (rIxL K) from ix_list) (pv 2) pe_int (fun _ _ => rfl)) (pa_cons (pe_op op_add_str (pe_op op_add_str (pe_k T.LAND) (pe_k T.LETTERS)) (pe_k T.WATER)) pa_nil))))))) pss_nil) (pss_cons (ps_if (pt_cmpR op_eq (pv 1) (pe_k T.NEAR) (nomark _)) (pss_one (ps_ret (pe_and (pe_c D_are_signs (hr.mono (by decide)) pass0 (pa_cons (pe_ix (show IxR _ (rIxL K) from ix_list) (pv 2) pe_int (fun _ _ => rfl)) (pa_cons (pe_op op_add_str (pe_op op_add_str (pe_k T.LAND) (pe_k T.LETTERS)) (pe_k T.WATER)) pa_nil))) (pe_one (pe_c D_is_number (hr.mono (by decide)) pass0 (pa_cons (pe_ix (show IxR _ (rIxL K) from ix_list) (pv 2) pe_int (fun _ _ => rfl)) (pa_cons pe_int (pa_cons (pe_k T.MAX_FAR) pa_nil)))))))) pss_nil) (pss_one (ps_ret (pe_and (pe_cmpR (show OpR _ (compareOp .In) (rIn K false) from op_in_seq) (pe_ix (show IxR _ (rIxL K) from ix_list) (pv 2) pe_int (fun _ _ => rfl)) (pe_tup (pa_cons (pe_k T.RIGHT) (pa_cons (pe_k T.LEFT) pa_nil))) rfl) (pe_and (pe_not (pe_callB (show CallR _ _ (rIsi K) from call_isi) rfl T.b_isinstance bt_isinstance (pa_cons (pe_ix (show IxR _ (rIxL K) from ix_list) (pv 2) pe_int (fun _ _ => rfl)) (pa_cons (pe_bltn (v := .ty "bool") (u := .type "bool") rfl T.b_bool bt_bool rfl) pa_nil)))) (pe_one (pe_c D_is_range (hr.mono (by decide)) pass0 (pa_cons (pe_ix (show IxR _ (rIxL K) from ix_list) (pv 2) pe_int (fun _ _ => rfl)) (pa_cons (pe_ix (show IxR _ (rIxL K) from ix_list) (pv 2) pe_int (fun _ _ => rfl)) pa_nil)))))))))))))), ?_⟩
    obtain ⟨ps, g, fps⟩ := fa.head
    walk_at "gx"
    refine ⟨a, _, ps, rfl, g, by have := fps.short; omega, fun p1 n1 => ?_⟩
    generalize hE1 : upd H p1 _ = H1; obtain ⟨k1, g1⟩ := updN n1 hE1
    walk_at "g1"
    walk_at "g1"
    walk_at "g1"
    walk_at "g1"
    walk_at "g1"
    walk_at "g1"
    have fps1 := fps.same k1
    have ix0 : ∀ {x : V} {r : List V} {Q' : VK} {H' : Hp}, ps = x :: r → Same H1 H' → Q' x H' → tOp (rIxL K) (tVar 2) (tC (V.int 0)) [some (.ref a), some (.str (fw f)), some (.ref p1)] H' Q' := fun {x r Q' H'} e s z => by
      subst e
      exact w_op (w_var rfl (w_c (w_ixL (SqL.of (s _ _ g1)) atI_0 z)))
    have ix1 : ∀ {x y : V} {r : List V} {Q' : VK} {H' : Hp}, ps = x :: y :: r → Same H1 H' → Q' y H' → tOp (rIxL K) (tVar 2) (tC (V.int 1)) [some (.ref a), some (.str (fw f)), some (.ref p1)] H' Q' := fun {x y r Q' H'} e s z => by
      subst e
      exact w_op (w_var rfl (w_c (w_ixL (SqL.of (s _ _ g1)) atI_1 z)))
    have ix2 : ∀ {x y z : V} {r : List V} {Q' : VK} {H' : Hp}, ps = x :: y :: z :: r → Same H1 H' → Q' z H' → tOp (rIxL K) (tVar 2) (tC (V.int 2)) [some (.ref a), some (.str (fw f)), some (.ref p1)] H' Q' := fun {x y z r Q' H'} e s h => by
      subst e
      exact w_op (w_var rfl (w_c (w_ixL (SqL.of (s _ _ g1)) atI_2 h)))
    have sgsD : ∀ {l : List Nat} {Q' : VK} {H' : Hp}, SgsOk l → (∀ H'', Same H' H'' → Q' (.bl (!wS l false)) H'') → spSgs [.str (tx l), .str (("." : Str) ++ "ABCDEFGHIJKLMNOPQRSTUVWXYZ")] H' Q' E0 := fun {l Q' H'} o z => by
      refine ⟨l, _, rfl, by have := o.2.1; omega, fun c hc => abc_le (o.2.2 c hc), fun H'' k => ?_⟩
      rw [dry_cps, sgOk_dry o]
      exact z H'' k
    have sgsW : ∀ {l : List Nat} {Q' : VK} {H' : Hp}, SgsOk l → (∀ H'', Same H' H'' → Q' (.bl (!wS l true)) H'') → spSgs [.str (tx l), .str ((("." : Str) ++ "ABCDEFGHIJKLMNOPQRSTUVWXYZ") ++ "~")] H' Q' E0 := fun {l Q' H'} o z => by
      refine ⟨l, _, rfl, by have := o.2.1; omega, fun c hc => abc_le (o.2.2 c hc), fun H'' k => ?_⟩
      rw [wet_cps, sgOk_wet o]
      exact z H'' k
    have s0 : Same H1 H1 := Same.refl _
    have out : ∀ {wd : Str} {t1 : TS} {D : Ends} , inV (.str wd) [.str "until", .str "toward"] = false → (∀ H', Same H1 H' → D.nx [some (.ref a), some (.str wd), some (.ref p1)] H') →
          tIfS (tTest (tOp (rIn K false) (tVar 1) (tTup (tCons (tC (.str "until")) (tCons (tC (.str "toward")) tNil))))) t1 tNext D [some (.ref a), some (.str wd), some (.ref p1)] H1 := fun {wd t1 D} hi z => by
        refine w_ifS (w_test (w_op (w_var rfl (w_tup (w_cons (w_c (w_cons (w_c (w_nil ⟨small (by simp), fun p8 n8 => ?_⟩)))))))))
        generalize hE8 : upd H1 p8 _ = H8; obtain ⟨k8, g8⟩ := updN n8 hE8
        exact ⟨p8, _, rfl, .inr (SqT.of g8), rfl, rfl, _, rfl, ifF hi (w_next (z H8 k8))⟩
    cases f with
    | turn ts =>
      obtain ⟨t, e, gt⟩ := fps1
      refine w_yt rfl rfl (w_ret (w_call (w_cons (ix0 e s0 (w_nil ⟨t, ts, rfl, gt, by have := fok.2.1; omega, fun H2 k2 => ?_⟩)))))
      rw [tnOk_is fok]
      have z := q H2 fun b u e => k2 _ _ (k1 _ _ e)
      rw [show (good (.turn ts) && !wsF (.turn ts)) = decide (ts.Pairwise (· < ·)) from Bool.and_true _] at z
      exact z
    | walk x y =>
      have e : ps = [.int x, .int y] := fps1
      refine w_nt rfl (show ("walk" : Str) ≠ "turn" by decide) (w_seq (w_yt rfl rfl (w_ret (w_call (w_cons (ix0 e s0 (w_cons (ix1 e s0 (w_nil ⟨x, y, rfl, ?_⟩)))))))))
      have z := q H1 k1
      have b : (good (.walk x y) && !wsF (.walk x y)) = (isNum (.int x) 0 20 && isNum (.int y) x 20) := by
        have := fok.1.1
        show (decide (x ≤ y ∧ y ≤ 20) && true) = ((decide (0 ≤ x) && decide (x ≤ 20)) && (decide (x ≤ y) && decide (y ≤ 20)))
        rw [Bool.eq_iff_iff]
        simp
        omega
      rw [b] at z
      exact z
    | til t l =>
      have e : ps = [.str (tx l)] := fps1
      have fin : ∀ {Q' : VK} {H' : Hp}, Same H1 H' → Q' = Q → spSgs [.str (tx l), .str (("." : Str) ++ "ABCDEFGHIJKLMNOPQRSTUVWXYZ")] H' Q' E0 := fun {Q' H'} s e => by
        subst e
        exact sgsD fok fun H'' k => q H'' fun b u z => k _ _ (s _ _ (k1 _ _ z))
      have go : ∀ {wd : Str} {t1 t2 : TS} {D : Ends}, wd ≠ "turn" → wd ≠ "walk" → inV (.str wd) [.str "until", .str "toward"] = true → fw (.til t l) = wd → (∀ H', Same H1 H' → t1 D [some (.ref a), some (.str (fw (.til t l))), some (.ref p1)] H') →
          tIfS (tTest (tOp (rIn K false) (tVar 1) (tTup (tCons (tC (.str "until")) (tCons (tC (.str "toward")) tNil))))) t1 t2 D [some (.ref a), some (.str (fw (.til t l))), some (.ref p1)] H1 := fun {wd t1 t2 D} _ _ hi e z => by
        refine w_ifS (w_test (w_op (w_var rfl (w_tup (w_cons (w_c (w_cons (w_c (w_nil ⟨small (by simp), fun p8 n8 => ?_⟩)))))))))
        generalize hE8 : upd H1 p8 _ = H8; obtain ⟨k8, g8⟩ := updN n8 hE8
        refine ⟨p8, _, rfl, .inr (SqT.of g8), rfl, rfl, _, rfl, ?_⟩
        rw [e]
        rw [e] at z
        exact ifT hi (z H8 k8)
      cases t with
      | true =>
        refine w_nt rfl (show ("until" : Str) ≠ "turn" by decide) (w_seq (w_nt rfl (show ("until" : Str) ≠ "walk" by decide) (w_seq (go (wd := "until") (by decide) (by decide) rfl rfl fun H' s => ?_))))
        exact w_ret (w_call (w_cons (ix0 e s (w_cons (w_op (w_c (w_c ⟨_, _, rfl, rfl, small dry_len, w_nil (fin s rfl)⟩)))))))
      | false =>
        refine w_nt rfl (show ("toward" : Str) ≠ "turn" by decide) (w_seq (w_nt rfl (show ("toward" : Str) ≠ "walk" by decide) (w_seq (go (wd := "toward") (by decide) (by decide) rfl rfl fun H' s => ?_))))
        exact w_ret (w_call (w_cons (ix0 e s (w_cons (w_op (w_c (w_c ⟨_, _, rfl, rfl, small dry_len, w_nil (fin s rfl)⟩)))))))
    | beside n l =>
      have e : ps = [.int n, .str (tx l)] := fps1
      refine w_nt rfl (show ("beside" : Str) ≠ "turn" by decide) (w_seq (w_nt rfl (show ("beside" : Str) ≠ "walk" by decide) (w_seq (out rfl fun H2 s2 => ?_))))
      refine w_seq (w_yt rfl rfl (w_ret (w_andV (w_call (w_cons (ix0 e s2 (w_cons (w_c (w_cons (w_c (w_nil ⟨.int n, 0, 3, rfl, rfl, _, rfl, ?_⟩)))))))))))
      have b : isNum (.int n) 0 3 = good (.beside n l) := by
        have := fok.1.1
        show (decide (0 ≤ n) && decide (n ≤ 3)) = decide (n ≤ 3)
        rw [decide_eq_true this, Bool.true_and]
      rw [b]
      refine iteb (fun eg => ?_) (fun eg => ?_)
      · refine w_call (w_cons (ix1 e s2 (w_cons (w_op (w_op (w_c (w_c ⟨_, _, rfl, rfl, small dry_len, w_c ⟨_, _, rfl, rfl, small wet_len, w_nil (sgsW fok.2 fun H3 k3 => ?_)⟩⟩)))))))
        have z := q H3 fun b u e => k3 _ _ (s2 _ _ (k1 _ _ e))
        rw [eg] at z
        exact z
      · have z := q H2 fun b u e => s2 _ _ (k1 _ _ e)
        rw [eg] at z
        exact z
    | near l n =>
      have e : ps = [.str (tx l), .int n] := fps1
      refine w_nt rfl (show ("near" : Str) ≠ "turn" by decide) (w_seq (w_nt rfl (show ("near" : Str) ≠ "walk" by decide) (w_seq (out rfl fun H2 s2 => ?_))))
      refine w_seq (w_nt rfl (show ("near" : Str) ≠ "beside" by decide) (w_seq (w_yt rfl rfl (w_ret (w_andV (w_call (w_cons (ix0 e s2 (w_cons (w_op (w_op (w_c (w_c ⟨_, _, rfl, rfl, small dry_len, w_c ⟨_, _, rfl, rfl, small wet_len, w_nil (sgsW fok.1 fun H3 k3 => ?_)⟩⟩)))))))))))))
      have s3 : Same H1 H3 := fun b u e => k3 _ _ (s2 _ _ e)
      have z := q H3 fun b u e => s3 _ _ (k1 _ _ e)
      have b : isNum (.int n) 0 22 = good (.near l n) := by
        have := fok.2.1
        show (decide (0 ≤ n) && decide (n ≤ 22)) = decide (n ≤ 22)
        rw [decide_eq_true this, Bool.true_and]
      rw [Bool.and_comm] at z
      refine ⟨_, rfl, iteb (fun eg => ?_) (fun eg => ?_)⟩
      · refine w_call (w_cons (ix1 e s3 (w_cons (w_c (w_cons (w_c (w_nil ⟨.int n, 0, 22, rfl, rfl, ?_⟩)))))))
        rw [show (!wsF (.near l n)) = true from eg, Bool.true_and, ← b] at z
        exact z
      · rw [show (!wsF (.near l n)) = false from eg] at z
        exact z
    | shore x y z =>
      have e : ps = [.int x, .int y, .int z] := fps1
      refine w_nt rfl (show ("shore" : Str) ≠ "turn" by decide) (w_seq (w_nt rfl (show ("shore" : Str) ≠ "walk" by decide) (w_seq (out rfl fun H2 s2 => ?_))))
      refine w_seq (w_nt rfl (show ("shore" : Str) ≠ "beside" by decide) (w_seq (w_nt rfl (show ("shore" : Str) ≠ "near" by decide) (w_ret (w_andV (w_op (ix0 e s2 (w_tup (w_cons (w_c (w_cons (w_c (w_nil ⟨small (by simp), fun p8 n8 => ?_⟩)))))))))))))
      generalize hE8 : upd H2 p8 _ = H8; obtain ⟨k8, g8⟩ := updN n8 hE8
      have s8 : Same H1 H8 := fun b u e => k8 _ _ (s2 _ _ e)
      refine ⟨p8, _, rfl, .inr (SqT.of g8), rfl, rfl, _, rfl, ?_⟩
      have b : (good (.shore x y z) && !wsF (.shore x y z)) = (inV (.int x) [.int 1, .int 3] && (isNum (.int y) 0 20 && isNum (.int z) y 20)) := by
        have := fok.2.1.1
        have i13 := in13 (x := x)
        show (decide (y ≤ z ∧ z ≤ 20 ∧ (x = 1 ∨ x = 3)) && true) = (inV (.int x) [.int 1, .int 3] && ((decide (0 ≤ y) && decide (y ≤ 20)) && (decide (y ≤ z) && decide (z ≤ 20))))
        rw [Bool.eq_iff_iff, Bool.and_true, decide_eq_true_iff, Bool.and_eq_true, i13]
        simp only [Bool.and_eq_true, decide_eq_true_iff]
        constructor
        · rintro ⟨h1, h2, h3⟩
          exact ⟨h3, ⟨this, by omega⟩, h1, h2⟩
        · rintro ⟨h3, ⟨_, _⟩, h1, h2⟩
          exact ⟨h1, h2, h3⟩
      have zz := q H8 fun b u e => s8 _ _ (k1 _ _ e)
      rw [b] at zz
      refine iteb (fun eg => ?_) (fun eg => ?_)
      · rw [show inV (.int x) [.int 1, .int 3] = true from eg, Bool.true_and] at zz
        refine w_andV (w_notV (w_cb (w_cons (ix0 e s8 (w_cons (w_c (w_nil ⟨_, _, _, _, _, rfl, .ty _, .base (.int x), kit_ty (show kitB "int" "bool" = some false by decide +kernel), _, rfl, _, rfl, ifT rfl ?_⟩)))))))
        exact w_call (w_cons (ix1 e s8 (w_cons (ix2 e s8 (w_nil ⟨y, z, rfl, zz⟩)))))
      · rw [show inV (.int x) [.int 1, .int 3] = false from eg] at zz
        exact zz
end
end
section
/-! ### properties; loops over enumerate -/
section
variable {P : Program} {w : World} {K : PySem.W.Frag} {mg : Str → Option Value} {base : Heap}
structure PropAt (K : PySem.W.Frag) (C : Addr) (f qual : Str) (st : Stmt) : Prop where
  ex : ∃ p g fd, PropOf K C f p g ∧ Fun K f qual st g fd ∧ Binds K fd ["self"] []
structure PropOk (P : Program) (w : World) (K : PySem.W.Frag) (mg : Str → Option Value) (base : Heap) (k : Nat) (C : Addr) (f fld : Str) : Prop where
  ex : ∃ p g fd, PropOf K C f p g ∧ FnOk P w K mg base CX0 k g fd ["self"] (getSp C fld) ∧ Binds K fd ["self"] []
theorem PropAt.ok {C : Addr} {f fld qual : Str} {st : Stmt} {N : List Str} {p1 p2 p3 : Pos} (D : PropAt K C f qual st) (S : FnScope N ["self"] (defScope st)) (hN : N[0]? = some ("self" : Str))
    (hb : defBody st = [.Return (some (.Attribute (.Name "self" p1) fld p2)) p3]) (c : Cls K C) (n : NoAttr K C fld) : PropOk P w K mg base 1 C f fld := by
  obtain ⟨p, g, fd, hp, F, b⟩ := D.ex
  obtain ⟨oc, od, kV, doc, pm, an, cdv, ct, osl, rfl, lk, hcd⟩ := F.ex
  exact ⟨p, g, _, hp, fn_getter lk hcd S hN hb c n, b⟩
theorem pe_pr {X : Cx} {k : Nat} {C : Addr} {f fld : Str} {e : Expr} {ta : TE} {pos : Pos} (he : PE X e ta) (c : Cls X.K C) (D : PropOk X.prog X.w X.K X.mg X.base k C f fld) (hr : Room (k + 1) X.A) (hab : attributeBase e f X.env (eval e X.env) = eval e X.env := by rfl) :
    PE X (.Attribute e f pos) (tProp C (getSp C fld) [] E0 ta) := by
  obtain ⟨p, g, fd, hp, F, b⟩ := D.ex
  exact pe_prop he c hp F hr b .nil pass0 hab
end
section
variable {K : PySem.W.Frag} {σ : St} {H : Hp} {g : TG} {tb : TS} {D : Ends} {a : Addr} {xs : List V}
theorem lp_enT (Pv : Nat → St → Hp → Prop) (h0 : Pv 0 σ H) (hl : ∀ i σ H, Pv i σ H → SqT K H a xs)
    (ht : ∀ i x σ H T, xs[i]? = some x → Pv i σ H → H T = none → g (.ref T) σ (upd H T (.tup [.int (i : Nat), x])) fun σ2 H2 => tb { D with nx := Pv (i + 1), ct := Pv (i + 1), bk := D.nx } σ2 H2) (hd : ∀ σ H, Pv xs.length σ H → D.nx σ H) : LoopOk (EN.IteT K a xs) g tb D σ H := by
  refine ⟨fun i m σ H => m = xs.length - i ∧ i ≤ xs.length ∧ Pv i σ H, ⟨_, rfl, Nat.zero_le _, h0⟩, ?_⟩
  rintro i m σ H ⟨rfl, hi, p⟩
  by_cases hlt : i < xs.length
  · refine .inr ⟨⟨hl i σ H p, hlt⟩, Pv (i + 1), fun σ' H' p' => ⟨xs.length - (i + 1), by omega, rfl, hlt, p'⟩, fun v H' y => ?_⟩
    obtain ⟨T, x, rfl, hT, rfl, hx⟩ := y
    exact ht i x σ H T hx p hT
  · have e : i = xs.length := by omega
    subst e
    exact .inl ⟨⟨hl _ σ H p, rfl⟩, hd σ H p⟩
theorem lp_enS {z : Str} (Pv : Nat → St → Hp → Prop) (h0 : Pv 0 σ H)
    (ht : ∀ i c σ H T, z.cps.toList[i]? = some c → Pv i σ H → H T = none → g (.ref T) σ (upd H T (.tup [.int (i : Nat), .str (sg c)])) fun σ2 H2 => tb { D with nx := Pv (i + 1), ct := Pv (i + 1), bk := D.nx } σ2 H2) (hd : ∀ σ H, Pv z.cps.size σ H → D.nx σ H) : LoopOk (EN.IteS z) g tb D σ H := by
  refine ⟨fun i m σ H => m = z.cps.size - i ∧ i ≤ z.cps.size ∧ Pv i σ H, ⟨_, rfl, Nat.zero_le _, h0⟩, ?_⟩
  rintro i m σ H ⟨rfl, hi, p⟩
  by_cases hlt : i < z.cps.size
  · refine .inr ⟨hlt, Pv (i + 1), fun σ' H' p' => ⟨z.cps.size - (i + 1), by omega, rfl, hlt, p'⟩, fun v H' y => ?_⟩
    obtain ⟨T, c, rfl, hT, rfl, hx⟩ := y
    exact ht i c σ H T (by rw [Array.getElem?_toList]; exact hx) p hT
  · have e : i = z.cps.size := by omega
    subst e
    exact .inl ⟨rfl, hd σ H p⟩
theorem lp_enL (Pv : Nat → St → Hp → Prop) (h0 : Pv 0 σ H) (hl : ∀ i σ H, Pv i σ H → SqL K H a xs)
    (ht : ∀ i x σ H T, xs[i]? = some x → Pv i σ H → H T = none → g (.ref T) σ (upd H T (.tup [.int (i : Nat), x])) fun σ2 H2 => tb { D with nx := Pv (i + 1), ct := Pv (i + 1), bk := D.nx } σ2 H2) (hd : ∀ σ H, Pv xs.length σ H → D.nx σ H) : LoopOk (Ite K a) g tb D σ H := by
  refine ⟨fun i m σ H => m = xs.length - i ∧ i ≤ xs.length ∧ Pv i σ H, ⟨_, rfl, Nat.zero_le _, h0⟩, ?_⟩
  rintro i m σ H ⟨rfl, hi, p⟩
  by_cases hlt : i < xs.length
  · refine .inr ⟨⟨xs, xs[i], hl i σ H p, List.getElem?_eq_getElem hlt⟩, Pv (i + 1), fun σ' H' p' => ⟨xs.length - (i + 1), by omega, rfl, hlt, p'⟩, fun v H' y => ?_⟩
    obtain ⟨T, x, rfl, hT, rfl, hx⟩ := y
    exact ht i x σ H T (hx xs (hl i σ H p)) p hT
  · have e : i = xs.length := by omega
    subst e
    exact .inl ⟨⟨xs, hl _ σ H p, Nat.le_refl _⟩, hd σ H p⟩
end
theorem w_iEnT {K : PySem.W.Frag} {ta : TA} {σ : St} {H : Hp} {R : It → Hp → Prop} (q : ta σ H fun vs H1 => ∃ a xs, vs = [.ref a] ∧ SqT K H1 a xs ∧ R (EN.IteT K a xs) H1) : EN.iEnT K ta σ H R := q
theorem w_iEnS {ta : TA} {σ : St} {H : Hp} {R : It → Hp → Prop} (q : ta σ H fun vs H1 => ∃ x, vs = [.str x] ∧ R (EN.IteS x) H1) : EN.iEnS ta σ H R := q
theorem w_iEnL {K : PySem.W.Frag} {ta : TA} {σ : St} {H : Hp} {R : It → Hp → Prop} (q : ta σ H fun vs H1 => ∃ a xs, vs = [.ref a] ∧ SqL K H1 a xs ∧ R (Ite K a) H1) : iEnum K ta σ H R := q
theorem lw_len : (("." : Str)).length + ("~" : Str).length ≤ 1000000 := by decide +kernel
theorem lwl_len : ((("." : Str) ++ "~" : Str)).length + ("ABCDEFGHIJKLMNOPQRSTUVWXYZ" : Str).length ≤ 1000000 := by decide +kernel
theorem lwl_cps : (((("." : Str) ++ "~") ++ "ABCDEFGHIJKLMNOPQRSTUVWXYZ" : Str)).cps.toList = abcL := by decide +kernel
theorem w_fld {K : PySem.W.Frag} {ta tv : TE} {f : Str} {D : Ends} {σ : St} {H : Hp} (q : tv σ H fun y H1 => ta σ H1 fun x H2 => ∃ a C dx fs, x = .ref a ∧ H2 a = some (.ins C dx fs) ∧ Cls K C ∧ NoAttr K C f ∧ fs.length < 1000 ∧ D.nx σ (upd H2 a (.ins C dx (putF f y fs)))) : sFld K ta tv f D σ H := q
/-! ### Island -/
structure IslC (K : PySem.W.Frag) (mg : Str → Option Value) (C : Addr) : Prop where
  g : mg "Island" = some (.ref C)
  c : Cls K C
  mk1 : ∃ f, Mk K C f
  na : NoAttr K C "own_rows"
section
variable {P : Program} {w : World} {K : PySem.W.Frag} {mg : Str → Option Value} {base : Heap}
def RowsOk (rows : List (List Nat)) : Prop := 1 ≤ rows.length ∧ rows.length ≤ 12 ∧ (∃ w, 1 ≤ w ∧ w ≤ 12 ∧ ∀ r ∈ rows, r.length = w) ∧ ∀ r ∈ rows, ∀ c ∈ r, c ∈ abcL
def spIsl (K : PySem.W.Frag) (C : Addr) : Sp := fun vs H Q _ => ∃ (x dx ra : Addr) (rows : List (List Nat)), vs = [.ref x, .ref ra] ∧ H x = some (.ins C dx []) ∧ SqT K H ra (rows.map fun r => V.str (tx r)) ∧ RowsOk rows ∧
  ∀ H', MvS x H H' → H' x = some (.ins C dx [("own_rows", .ref ra)]) → Q .non H'
abbrev s_Island_init : Stmt := inClass (top 13) 0
theorem sc_Island_init : FnScope ["self", "rows", "row", "text", "column", "sign"] ["self", "rows"] (defScope s_Island_init) := ⟨rfl, rfl, rfl, by decide +kernel, rfl, by decide +kernel, by decide +kernel⟩
theorem ok_island {C : Addr} (D : MetAt K C "__init__" "Island.__init__" s_Island_init ["self", "rows"]) (T : PTxt K mg) (IC : IslC K mg C) : MetOk P w K mg base CX0 1 C "__init__" (spIsl K C) := by
  refine D.ok sc_Island_init (fun vs H Q E h => ?_) (fun f cdv A outer s0 H vs Q E hr h => ?_)
  · obtain ⟨x, dx, ra, rows, rfl, _⟩ := h
    rfl
  · obtain ⟨x, dx, ra, rows, rfl, hx, hra, ok, q⟩ := h
    refine ⟨_, (pss_cons (ps_if (PW.pt (pw_or (pt_cmpR op_eq (pe_callB (show CallR _ _ (rLen K) from call_lenK) rfl T.b_len bt_len (pa_cons (pv 1) pa_nil)) pe_int (nomark _)) (pw_or1 (pt_cmpR op_eq (pe_ix (show IxR _ (rIxT K) from ix_tup) (pv 1) pe_int (fun _ _ => rfl)) pe_str (nomark _))))) (pss_one ps_not) pss_nil) (pss_cons (ps_for PassesOwn.never rfl (EN.pi_enumT (by rfl) T.b_enumerate (pa_cons (pv 1) pa_nil)) (pg_tup rfl (pgs_cons (pg_name (i := 2) sc_Island_init.nd rfl (by first | exact Or.inl rfl | exact Or.inr rfl)) (pgs_cons (pg_name (i := 3) sc_Island_init.nd rfl (by first | exact Or.inl rfl | exact Or.inr rfl)) pgs_nil))) (pss_cons (ps_if (pt_cmpR op_eq (pv 2) (pe_k T.MAX_SIZE) (nomark _)) (pss_one ps_not) pss_nil) (pss_cons (ps_for PassesOwn.never rfl (EN.pi_enumS (by rfl) T.b_enumerate (pa_cons (pv 3) pa_nil)) (pg_tup rfl (pgs_cons (pg_name (i := 4) sc_Island_init.nd rfl (by first | exact Or.inl rfl | exact Or.inr rfl)) (pgs_cons (pg_name (i := 5) sc_Island_init.nd rfl (by first | exact Or.inl rfl | exact Or.inr rfl)) pgs_nil))) (pss_one (ps_if (PW.pt (pw_or (pt_cmpR op_eq (pv 4) (pe_callB (call_min2 rfl) rfl T.b_min bt_min (pa_cons (pe_k T.MAX_SIZE) (pa_cons (pe_callB call_len_str rfl T.b_len bt_len (pa_cons (pe_ix (show IxR _ (rIxT K) from ix_tup) (pv 1) pe_int (fun _ _ => rfl)) pa_nil)) pa_nil))) (nomark _)) (pw_or1 (pt_cmpR op_notIn_sign (pv 5) (pe_op op_add_str (pe_op op_add_str (pe_k T.LAND) (pe_k T.WATER)) (pe_k T.LETTERS)) rfl)))) (pss_one ps_not) pss_nil))) (pss_one (ps_if (pt_cmpR op_lt (pe_callB call_len_str rfl T.b_len bt_len (pa_cons (pv 3) pa_nil)) (pe_callB call_len_str rfl T.b_len bt_len (pa_cons (pe_ix (show IxR _ (rIxT K) from ix_tup) (pv 1) pe_int (fun _ _ => rfl)) pa_nil)) (nomark _)) (pss_one ps_not) pss_nil))))) (pss_one (ps_fld (pv 0) (pv 1) rfl)))), ?_⟩
    obtain ⟨o1, o12, ⟨wd, w1, w12, hw⟩, oc⟩ := ok
    obtain ⟨r0, rest, er⟩ : ∃ r0 rest, rows = r0 :: rest := by
      cases rows with
      | nil => exact absurd o1 (by simp)
      | cons r0 rest => exact ⟨r0, rest, rfl⟩
    have h0 : r0.length = wd := hw r0 (by rw [er]; exact List.mem_cons_self)
    have e0 : atI (rows.map fun r => V.str (tx r)) 0 = some (.str (tx r0)) := by rw [er]; exact atI_0
    have lt : ∀ l : List Nat, (tx l).length = l.length := fun l => by show l.toArray.size = _; simp
    have lc : ∀ l : List Nat, (tx l).cps.toList = l := fun l => by simp
    have ls : ∀ l : List Nat, (tx l).cps.size = l.length := fun l => by simp
    walk_at "gx"
    refine ifF (decide_eq_false fun z => ?_) ?_
    · injection z with z
      rw [List.length_map] at z
      omega
    walk_at "gx"
    refine w_ixT hra e0 ?_
    walk_at "gx"
    refine ifF (decide_eq_false fun z => ?_) ?_
    · injection z with z
      have y := congrArg Str.length z
      rw [lt] at y
      rw [y] at h0
      rw [← h0] at w1
      exact absurd w1 (by decide)
    walk_at "g1"
    walk_at "g1"
    walk_at "g1"
    refine w_iEnT (w_cons (w_var rfl (w_nil ⟨ra, _, rfl, hra, ?_⟩)))
    have hn : H x ≠ none := by rw [hx]; exact fun z => nomatch z
    refine lp_enT (fun i σ H' => ∃ v2 v3 v4 v5, σ = [some (.ref x), some (.ref ra), v2, v3, v4, v5] ∧ Same H H') ⟨_, _, _, _, rfl, Same.refl _⟩ (fun i σ H' z => by obtain ⟨_, _, _, _, _, s⟩ := z; exact Same.seqT s hra) ?_ ?_
    · rintro i v σ H1 T hv ⟨v2, v3, v4, v5, rfl, s1⟩ nT
      rw [List.getElem?_map] at hv
      cases hr0 : rows[i]? with
      | none => rw [hr0] at hv; cases hv
      | some r =>
        rw [hr0] at hv
        cases hv
        have rm := List.mem_of_getElem? hr0
        have rl := hw r rm
        have il := (List.getElem?_eq_some_iff.mp hr0).1
        generalize hE2 : upd H1 T _ = H2; obtain ⟨k2, g2⟩ := updN nT hE2
        have s2 : Same H H2 := fun b u e => k2 _ _ (s1 _ _ e)
        refine w_gtup (SqT.of g2) rfl ?_
        walk_at "gx"
        refine ifF (decide_eq_false fun z => ?_) ?_
        · injection z with z
          omega
        walk_at "g1"
        walk_at "g1"
        walk_at "g1"
        refine w_iEnS (w_cons (w_var rfl (w_nil ⟨tx r, rfl, ?_⟩)))
        refine lp_enS (fun j σ H' => ∃ v4 v5, σ = [some (.ref x), some (.ref ra), some (.int i), some (.str (tx r)), v4, v5] ∧ Same H H') ⟨_, _, rfl, s2⟩ ?_ ?_
        · rintro j c σ H3 T3 hc ⟨v4, v5, rfl, s3⟩ nT3
          rw [lc] at hc
          have jl := (List.getElem?_eq_some_iff.mp hc).1
          have cm := oc r rm c (List.mem_of_getElem? hc)
          generalize hE4 : upd H3 T3 _ = H4; obtain ⟨k4, g4⟩ := updN nT3 hE4
          have s4 : Same H H4 := fun b u e => k4 _ _ (s3 _ _ e)
          refine w_gtup (SqT.of g4) rfl ?_
          walk_at "gx"
          refine w_ixT (Same.seqT s4 hra) e0 (w_nil ⟨tx r0, rfl, small (by rw [lt]; omega), w_nil ⟨_, _, rfl, w_eq rfl ⟨_, rfl, ?_⟩⟩⟩)
          rw [lt]
          refine ifF (decide_eq_false fun z => ?_) ?_
          · injection z with z
            split at z <;> omega
          refine w_test (w_op (w_var rfl (w_op (w_op (w_c (w_c ⟨_, _, rfl, rfl, small lw_len, w_c ⟨_, _, rfl, rfl, small lwl_len, c, _, rfl, rfl, _, rfl, ?_⟩⟩))))))
          rw [lwl_cps, decide_eq_true cm]
          exact ifF rfl (w_next ⟨_, _, rfl, s4⟩)
        · rintro σ H3 ⟨v4, v5, rfl, s3⟩
          walk_at "gx"
          have r12 : r.length ≤ 12 := by omega
          refine ⟨small (by rw [lt]; omega), w_cb (w_cons (w_op (w_var rfl (w_c (w_ixT (Same.seqT s3 hra) e0 (w_nil ⟨_, rfl, small (by rw [lt]; omega), w_I0 ⟨_, rfl, ?_⟩⟩))))))⟩
          rw [lt, lt]
          exact ifF (decide_eq_false (by omega)) (w_next ⟨_, _, _, _, rfl, s3⟩)
    · rintro σ H1 ⟨v2, v3, v4, v5, rfl, s1⟩
      refine w_fld (w_var rfl (w_var rfl ⟨x, C, dx, [], rfl, s1 _ _ hx, IC.c, IC.na, by decide, q _ ?_ upd_same⟩))
      exact fun b u n e => by rw [upd_ne n]; exact s1 _ _ e
end
end
section
/-! ### Map -/
structure MapC (K : PySem.W.Frag) (mg : Str → Option Value) (C : Addr) : Prop where
  g : mg "Map" = some (.ref C)
  c : Cls K C
  mk1 : ∃ f, Mk K C f
  n1 : NoAttr K C "own_island"
  n2 : NoAttr K C "own_signs"
  n3 : NoAttr K C "own_facings"
  n4 : NoAttr K C "own_instructions"
/-- the two exceptions that are raised -/
structure XTxt (P : Program) (K : PySem.W.Frag) (mg : Str → Option Value) (CD fD CV fV : Addr) : Prop extends PTxt K mg where
  dec : KwX.KwT P K mg s_dec "DecodeError" "DecodeError.__init__" "a code is malformed" "offset" CD fD
  inv : KwX.KwT P K mg s_inv "InvalidMap" "InvalidMap.__init__" "a map is invalid" "index" CV fV
theorem ins_tup {K : PySem.W.Frag} {H H' : Hp} {x a C dx : Addr} {fs : List (Str × V)} {xs : List V} (hx : H x = some (.ins C dx fs)) (m : MvS x H H') (q : SqT K H a xs) : SqT K H' a xs := by
  have ne : ∀ {u : HO}, H a = some u → (∀ C d l, u ≠ .ins C d l) → a ≠ x := fun {u} e d z => by
    rw [z, hx] at e
    exact d _ _ _ (Option.some.inj e).symm
  rcases q with (e | ⟨o, e⟩) | q
  · exact .inl (.inl (m _ _ (ne e fun _ _ _ z => nomatch z) e))
  · exact .inl (.inr ⟨o, m _ _ (ne e fun _ _ _ z => nomatch z) e⟩)
  · exact .inr q
theorem ins_seq {K : PySem.W.Frag} {H H' : Hp} {x a C dx : Addr} {fs : List (Str × V)} {xs : List V} (hx : H x = some (.ins C dx fs)) (m : MvS x H H') (q : SqL K H a xs) : SqL K H' a xs := by
  have ne : ∀ {u : HO}, H a = some u → (∀ C d l, u ≠ .ins C d l) → a ≠ x := fun {u} e d z => by
    rw [z, hx] at e
    exact d _ _ _ (Option.some.inj e).symm
  rcases q with (e | ⟨o, e⟩) | q
  · exact .inl (.inl (m _ _ (ne e fun _ _ _ z => nomatch z) e))
  · exact .inl (.inr ⟨o, m _ _ (ne e fun _ _ _ z => nomatch z) e⟩)
  · exact .inr q
theorem firstNot_lt {α : Type} {g : α → Bool} : ∀ {l : List α} {i : Nat}, (∀ (j : Nat) (y : α), j < i → l[j]? = some y → g y = true) → firstNot g (l.take i) = none
  | [], i, _ => by rw [List.take_nil]; rfl
  | x :: r, 0, _ => rfl
  | x :: r, i + 1, h => by
    show firstNot g (x :: r.take i) = none
    unfold firstNot
    rw [if_pos (h 0 x (Nat.succ_pos i) rfl), firstNot_lt (l := r) (i := i) fun j y hj hy => h (j + 1) y (Nat.succ_lt_succ hj) hy]
    rfl
section
variable {P : Program} {w : World} {K : PySem.W.Frag} {mg : Str → Option Value} {base : Heap}
theorem w_raiseK {C : Addr} {fld : Str} {W : WX} {tk : TA} {D : Ends} {σ : St} {H : Hp} (q : tk σ H fun vs H1 => ∃ v, vs = [v] ∧ ∀ d, H1 d = none → W (.ref C) (some d) σ (upd H1 d (.xd [(fld, v)]))) : tRaiseK C fld W tk D σ H := q
def spMap (K : PySem.W.Frag) (CM CV : Addr) : Sp := fun vs H Q E => ∃ (x dx isl fa ia : Addr) (m : MapD) (is : List InF) (DD : DL), vs = [.ref x, .ref isl, .str (tx m.z), .ref fa, .ref ia] ∧ H x = some (.ins CM dx []) ∧ SqT K H fa (m.fs.map V.int) ∧ SqL K H ia (drefs DD) ∧
  DD.map (·.2) = m.is ∧ (∀ p ∈ DD, InsAt K H p.1 p.2) ∧ MapOk m ∧ m.is = is.map InF.ins ∧ (∀ k d H', faultOf m is = some k → MvS x H H' → H' d = some (.xd [("index", .int k)]) → E (.ref CV) (some d) H') ∧
  ∀ t H', faultOf m is = none → MvS x H H' → H' x = some (.ins CM dx [("own_island", .ref isl), ("own_signs", .str (tx m.z)), ("own_facings", .ref fa), ("own_instructions", .ref t)]) → SqT K H' t (drefs DD) → Q .non H'
abbrev s_Map_init : Stmt := inClass (top 33) 0
theorem sc_Map_init : FnScope ["self", "island", "signs", "facings", "instructions", "index", "instruction"] ["self", "island", "signs", "facings", "instructions"] (defScope s_Map_init) := ⟨rfl, rfl, rfl, by decide +kernel, rfl, by decide +kernel, by decide +kernel⟩
theorem ok_map {CM CD fD CV fV : Addr} (D : MetAt K CM "__init__" "Map.__init__" s_Map_init ["self", "island", "signs", "facings", "instructions"]) (T : XTxt P K mg CD fD CV fV) (MC : MapC K mg CM) (D_are_turns : DefOk P w K mg base CX0 2 "are_turns" (spTns K)) (D_are_signs : DefOk P w K mg base CX0 2 "are_signs" spSgs)
    (D_is_instruction : DefOk P w K mg base CX0 3 "is_instruction" (spIns K)) : MetOk P w K mg base (L2.CX P w) 4 CM "__init__" (spMap K CM CV) := by
  refine D.okX sc_Map_init (fun vs H Q E h => ?_) (fun f cdv A outer s0 H vs Q E hr h => ?_)
  · obtain ⟨x, dx, isl, fa, ia, m, is, DD, rfl, _⟩ := h
    rfl
  · obtain ⟨x, dx, isl, fa, ia, m, is, DD, rfl, hx, hfa, hia, h5, h6, ok, ei, qe, qo⟩ := h
    refine ⟨_, (pss_cons (ps_if (PW.pt (pw_or (pt_not (pt_val (pe_c D_are_signs (hr.mono (by decide)) pass0 (pa_cons (pv 2) (pa_cons (pe_op op_add_str (pe_k T.LAND) (pe_k T.LETTERS)) pa_nil))))) (pw_or1 (pt_not (pt_val (pe_c D_are_turns (hr.mono (by decide)) pass0 (pa_cons (pv 3) pa_nil))))))) (pss_one (ps_raiseK rfl sh_inv T.inv hr (takes_of rfl rfl rfl rfl) (pk_cons (pe_un un_neg pe_int) pk_nil))) pss_nil) (pss_cons (ps_for (passes_of rfl) rfl (pi_enum (by rfl) T.b_enumerate (pa_cons (pv 4) pa_nil)) (pg_tup rfl (pgs_cons (pg_name (i := 5) sc_Map_init.nd rfl (by first | exact Or.inl rfl | exact Or.inr rfl)) (pgs_cons (pg_name (i := 6) sc_Map_init.nd rfl (by first | exact Or.inl rfl | exact Or.inr rfl)) pgs_nil))) (pss_one (ps_if (PW.pt (pw_or (pt_cmpR op_eq (pv 5) (pe_k T.MAX_INSTRUCTIONS) (nomark _)) (pw_or1 (pt_not (pt_val (pe_c D_is_instruction (hr.mono (by decide)) pass0 (pa_cons (pv 6) pa_nil))))))) (pss_one (ps_raiseK rfl sh_inv T.inv hr (takes_of rfl rfl rfl rfl) (pk_cons (pv 5) pk_nil))) pss_nil))) (pss_cons (ps_fld (pv 0) (pv 1) rfl) (pss_cons (ps_fld (pv 0) (pv 2) rfl) (pss_cons (ps_fld (pv 0) (pv 3) rfl) (pss_one (ps_fld (pv 0) (pe_callTy call_tuple_of rfl T.b_tuple bt_tuple (pa_cons (pv 4) pa_nil)) rfl))))))), ?_⟩
    have hn : ∀ {d : Addr}, H d = none → d ≠ x := fun {d} n e => by rw [e, hx] at n; cases n
    have il : DD.length = is.length := by
      have e := congrArg List.length h5
      rw [List.length_map, ei, List.length_map] at e
      exact e
    have n20 : is.length ≤ 20 := by
      have e := ok.n20
      rw [ei, List.length_map] at e
      exact e
    walk_at "gx"
    refine ⟨_, _, rfl, rfl, small dry_len, w_nil ⟨m.z, _, rfl, by have := ok.z.2.1; omega, fun c hc => abc_le (ok.z.2.2 c hc), fun H1 k1 => ⟨_, rfl, ?_⟩⟩⟩
    rw [dry_cps, sgOk_dry ok.z, Bool.not_not]
    have fail : ∀ {H' : Hp} {D : Ends} {σ : St}, Same H H' → faultOf m is = some (-1) → tRaiseK CV "index" (fun cls d _ H => E cls d H) (tCons (tUn (rU fun i => V.int (-i)) (tC (V.int 1))) tNil) D σ H' := fun {H' D σ} s e => by
      refine w_raiseK (w_cons (w_un (w_c (w_U (w_nil ⟨_, rfl, fun d nd => ?_⟩)))))
      exact qe (-1) d _ e (MvS.of (Same.updD s (none_back s nd))) upd_same
    refine iteb (fun e => ifT rfl (fail k1 ?_)) (fun e => ?_)
    · unfold faultOf
      rw [if_pos (.inl e)]
    have ef : faultOf m is = if m.fs.Pairwise (· < ·) then (firstNot (fun f => good f && !wsF f) is).map fun k => (k : Int) else some (-1) := by
      unfold faultOf
      rw [e]
      by_cases h : m.fs.Pairwise (· < ·)
      · rw [if_pos h, if_neg (fun z => z.elim (fun z => nomatch z) fun z => z h)]
      · rw [if_neg h, if_pos (.inr h)]
    refine w_not (w_tB (w_call (w_cons (w_var rfl (w_nil ⟨fa, m.fs, rfl, Same.seqT k1 hfa, by have := ok.fs.2.1; omega, fun H2 k2 => ⟨_, rfl, ?_⟩⟩)))))
    have s2 : Same H H2 := fun b u z => k2 _ _ (k1 _ _ z)
    rw [tnOk_is ok.fs]
    by_cases hp : m.fs.Pairwise (· < ·)
    case neg =>
      rw [decide_eq_false hp]
      exact ifT rfl (fail s2 (by rw [ef, if_neg hp]))
    rw [decide_eq_true hp]
    rw [if_pos hp] at ef
    refine ifF rfl ?_
    clear fail k1 k2
    walk_at "g1"
    walk_at "g1"
    walk_at "g1"
    refine w_iEnL (w_cons (w_var rfl (w_nil ⟨ia, _, rfl, Same.seq s2 hia, ?_⟩)))
    refine lp_enL (xs := drefs DD) (fun i σ H' => ∃ v5 v6, σ = [some (.ref x), some (.ref isl), some (.str (tx m.z)), some (.ref fa), some (.ref ia), v5, v6] ∧ Same H H' ∧ ∀ (j : Nat) (y : InF), j < i → is[j]? = some y → (good y && !wsF y) = true)
      ⟨_, _, rfl, s2, fun j y hj => absurd hj (Nat.not_lt_zero _)⟩ (fun i σ H' z => by obtain ⟨_, _, _, s, _⟩ := z; exact Same.seq s hia) ?_ ?_
    · rintro i v σ H3 T3 hv ⟨v5, v6, rfl, s3, prev⟩ nT
      generalize hE4 : upd H3 T3 _ = H4; obtain ⟨k4, g4⟩ := updN nT hE4
      have s4 : Same H H4 := fun b u e => k4 _ _ (s3 _ _ e)
      have hi : i < is.length := by
        have z := (List.getElem?_eq_some_iff.mp hv).1
        rw [List.length_map] at z
        omega
      have hf := List.getElem?_eq_getElem hi
      generalize is[i] = f at hf
      obtain ⟨a, rfl, fat⟩ : ∃ a, v = .ref a ∧ FAt K H4 a f := by
        have e : (DD.map (·.2))[i]? = some f.ins := by rw [h5, ei, List.getElem?_map, hf]; rfl
        rw [List.getElem?_map] at e hv
        cases e2 : DD[i]? with
        | none => rw [e2] at e; cases e
        | some p =>
          rw [e2] at e hv
          have e : some p.2 = some f.ins := e
          cases hv
          refine ⟨p.1, rfl, ?_⟩
          have q := h6 p (List.mem_of_getElem? e2)
          rw [Option.some.inj e] at q
          exact (FAt.of q).same s4
      have fok : f.Ok := (ok.is f.ins (by rw [ei]; exact List.mem_map.mpr ⟨f, List.mem_of_getElem? hf, rfl⟩)).f
      refine w_gtup (SqT.of g4) rfl ?_
      walk_at "gx"
      refine ifF (decide_eq_false fun z => ?_) ?_
      · injection z with z
        omega
      walk_at "gx"
      refine ⟨a, f, rfl, fat, fok, fun H5 k5 => ⟨_, rfl, ?_⟩⟩
      have s5 : Same H H5 := fun b u e => k5 _ _ (s4 _ _ e)
      cases eg : (good f && !wsF f) with
      | true =>
        refine ifF rfl (w_next ⟨_, _, rfl, s5, fun j y hj hy => ?_⟩)
        rcases Nat.lt_or_ge j i with z | z
        · exact prev j y z hy
        · have ej : j = i := by omega
          subst ej
          rw [hf] at hy
          cases hy
          exact eg
      | false =>
        refine ifT rfl (w_raiseK (w_cons (w_var rfl (w_nil ⟨_, rfl, fun d nd => ?_⟩))))
        refine qe (i : Int) d _ ?_ (MvS.of (Same.updD s5 (none_back s5 nd))) upd_same
        rw [ef, firstNot_at hf eg prev]
        rfl
    · rintro σ H3 ⟨v5, v6, rfl, s3, prev⟩
      have en : faultOf m is = none := by
        rw [ef, firstNot_none (g := fun f => good f && !wsF f) fun y hy => ?_]
        · rfl
        · obtain ⟨j, hj⟩ := List.getElem?_of_mem hy
          exact prev j y (by have := (List.getElem?_eq_some_iff.mp hj).1; rw [List.length_map]; omega) hj
      have mv : ∀ {H' : Hp} {o : HO}, MvS x H H' → MvS x H (upd H' x o) := fun {H' o} s b u n e => by rw [upd_ne n]; exact s b u n e
      refine w_seq (w_fld (w_var rfl (w_var rfl ⟨x, CM, dx, [], rfl, s3 _ _ hx, MC.c, MC.n1, by decide, ?_⟩)))
      refine w_seq (w_fld (w_var rfl (w_var rfl ⟨x, CM, dx, [("own_island", .ref isl)], rfl, upd_same, MC.c, MC.n2, by show 1 < 1000; decide, ?_⟩)))
      refine w_seq (w_fld (w_var rfl (w_var rfl ⟨x, CM, dx, [("own_island", .ref isl), ("own_signs", .str (tx m.z))], rfl, upd_same, MC.c, MC.n3, by show 2 < 1000; decide, ?_⟩)))
      generalize hE6 : upd (upd (upd H3 x _) x _) x _ = H6
      have m6 : MvS x H H6 := by rw [← hE6]; exact mv (mv (mv (MvS.of s3)))
      have g6 : H6 x = some (.ins CM dx [("own_island", .ref isl), ("own_signs", .str (tx m.z)), ("own_facings", .ref fa)]) := by rw [← hE6]; exact upd_same
      have hia6 := ins_seq hx m6 hia
      dsimp only
      refine w_fld ?_
      refine w_cb (w_cons (w_var rfl (w_nil ⟨ia, _, rfl, .inl ⟨hia6, fun p7 n7 => ?_⟩⟩)))
      generalize hE7 : upd H6 p7 _ = H7; obtain ⟨k7, g7⟩ := updN n7 hE7
      refine w_var rfl ⟨x, CM, dx, [("own_island", .ref isl), ("own_signs", .str (tx m.z)), ("own_facings", .ref fa)], rfl, k7 _ _ g6, MC.c, MC.n4, by show 3 < 1000; decide, ?_⟩
      have nx : p7 ≠ x := fun e => by rw [e, g6] at n7; cases n7
      refine qo p7 _ en (mv (m6.trans (MvS.of k7))) upd_same (SqT.of (by rw [upd_ne nx]; exact g7))
end
end
section
/-! ### Reader: its slots -/
structure RdC (K : PySem.W.Frag) (mg : Str → Option Value) (C p0 p1 : Addr) : Prop where
  g : mg "Reader" = some (.ref C)
  c : SlX.SCls K C
  mk1 : ∃ f, Mk K C f
  s0 : SlX.Slot1 K C "codes" p0 0
  s1 : SlX.Slot1 K C "offset" p1 1
/-- a reader of the list at a, at the place o -/
structure Rd (H : Hp) (x C dx a : Addr) (o : Nat) : Prop where
  gx : H x = some (SlX.SlO x C dx [some (.ref a), some (.int o)])
  gd : H dx = some (.xd [])
theorem Rd.slt {H : Hp} {x C dx a : Addr} {o : Nat} (r : Rd H x C dx a o) : SlX.Slt H x C dx [some (.ref a), some (.int o)] := .inr ⟨r.gx, r.gd⟩
theorem Rd.same {H H' : Hp} {x C dx a : Addr} {o : Nat} (r : Rd H x C dx a o) (k : Same H H') : Rd H' x C dx a o := ⟨k _ _ r.gx, k _ _ r.gd⟩
theorem Rd.ne {H : Hp} {x C dx a b : Addr} {o : Nat} {u : HO} (r : Rd H x C dx a o) (h : H b = some u) (n : ∀ z, u ≠ .ext z) : b ≠ x := fun e => by
  rw [e, r.gx] at h
  exact n _ (Option.some.inj h).symm
theorem Rd.lst {H H' : Hp} {x C dx a b : Addr} {o : Nat} {xs : List V} (r : Rd H x C dx a o) (m : MvS x H H') (q : H b = some (.lst xs)) : H' b = some (.lst xs) := m _ _ (r.ne q fun _ z => nomatch z) q
theorem Rd.tup {K : PySem.W.Frag} {H H' : Hp} {x C dx a b : Addr} {o : Nat} {xs : List V} (r : Rd H x C dx a o) (m : MvS x H H') (q : SqT K H b xs) : SqT K H' b xs := by
  rcases q with (e | ⟨u, e⟩) | q
  · exact .inl (.inl (m _ _ (r.ne e fun _ z => nomatch z) e))
  · exact .inl (.inr ⟨u, m _ _ (r.ne e fun _ z => nomatch z) e⟩)
  · exact .inr q
theorem Rd.vs {H H' : Hp} {x C dx a b : Addr} {o : Nat} {vals : List V} (r : Rd H x C dx a o) (m : MvS x H H') (v : Vs H b vals) : Vs H' b vals := ⟨r.lst m v.g, v.ok, v.ln⟩
theorem Rd.put {H : Hp} {x C dx a : Addr} {o o' : Nat} (r : Rd H x C dx a o) : MvS x H (SlX.slH H x C dx [some (.ref a), some (.int o')]) ∧ Rd (SlX.slH H x C dx [some (.ref a), some (.int o')]) x C dx a o' := by
  have hne : dx ≠ x := r.ne r.gd fun _ z => nomatch z
  refine ⟨fun b u n e => ?_, upd_same, ?_⟩
  · show upd (upd H dx (.xd [])) x _ b = some u
    rw [upd_ne n]
    by_cases h : b = dx
    · subst h
      rw [upd_same, ← e, r.gd]
    · rw [upd_ne h]
      exact e
  · show upd (upd H dx (.xd [])) x _ dx = _
    rw [upd_ne hne, upd_same]
theorem Same.mv {x : Addr} {H H' H'' : Hp} (s : Same H H') (m : MvS x H' H'') (n : H x = none) : Same H H'' := fun b u e => m b u (ne_of_none e n) (s b u e)
section
variable {K : PySem.W.Frag} {mg : Str → Option Value} {C p0 p1 : Addr} {σ : St} {H : Hp} {Q : VK} {i : Nat} {x dx a : Addr} {o : Nat}
theorem w_codes (RC : RdC K mg C p0 p1) (e : σ[i]? = some (some (.ref x))) (R : Rd H x C dx a o) (q : Q (.ref a) H) : SlX.tSl K (tVar i) "codes" σ H Q := ⟨_, e, x, C, dx, p0, _, 0, .ref a, rfl, R.slt, RC.c, RC.s0, rfl, q⟩
theorem w_off (RC : RdC K mg C p0 p1) (e : σ[i]? = some (some (.ref x))) (R : Rd H x C dx a o) (q : Q (.int o) H) : SlX.tSl K (tVar i) "offset" σ H Q := ⟨_, e, x, C, dx, p1, _, 1, .int o, rfl, R.slt, RC.c, RC.s1, rfl, q⟩
end
section
variable {P : Program} {w : World} {K : PySem.W.Frag} {mg : Str → Option Value} {base : Heap}
def spRd (C : Addr) : Sp := fun vs H Q _ => ∃ (x dx a : Addr), vs = [.ref x, .ref a] ∧ H x = some (.ins C dx []) ∧ dx ≠ x ∧ ∀ H', (∀ b u, b ≠ x → b ≠ dx → H b = some u → H' b = some u) → Rd H' x C dx a 0 → Q .non H'
abbrev s_Reader_init : Stmt := inClass (top 42) 1
theorem sc_Reader_init : FnScope ["self", "values"] ["self", "values"] (defScope s_Reader_init) := ⟨rfl, rfl, rfl, by decide +kernel, rfl, by decide +kernel, by decide +kernel⟩
theorem ok_reader {C p0 p1 : Addr} (D : MetAt K C "__init__" "Reader.__init__" s_Reader_init ["self", "values"]) (RC : RdC K mg C p0 p1) : MetOk P w K mg base CX0 1 C "__init__" (spRd C) := by
  refine D.ok sc_Reader_init (fun vs H Q E h => ?_) (fun f cdv A outer s0 H vs Q E hr h => ?_)
  · obtain ⟨x, dx, a, rfl, _⟩ := h
    rfl
  · obtain ⟨x, dx, a, rfl, hx, ne, q⟩ := h
    refine ⟨_, (pss_cons (SlX.ps_sl (pv 0) (pv 1)) (pss_one (SlX.ps_sl (pv 0) pe_int))), ?_⟩
    refine w_seq ?_
    refine ⟨_, rfl, _, rfl, x, C, dx, p0, [], 0, rfl, .inl ⟨hx, rfl⟩, RC.c, RC.s0, ?_⟩
    refine ⟨_, rfl, x, C, dx, p1, _, 1, rfl, SlX.slH_slt ne, RC.c, RC.s1, ?_⟩
    rw [SlX.slH_twice ne]
    refine q _ (fun b u n1 n2 e => ?_) ⟨upd_same, ?_⟩
    · rw [SlX.slH_ne n1 n2]
      exact e
    · show upd (upd H dx (.xd [])) x _ dx = _
      rw [upd_ne ne, upd_same]
/-- the fault goes out -/
abbrev Out (E : XK) (CD x : Addr) (H : Hp) (e : Nat) : Prop := ∀ d H', MvS x H H' → H' d = some (.xd [("offset", .int (e : Nat))]) → E (.ref CD) (some d) H'
/-- the promise of a reader's method: it parses, or the fault's place is told -/
def spPar {α : Type} (C CD : Addr) (p : List V → Pr α) (Val : α → V → Hp → Prop) (args : List V) : Sp := fun vs H Q E => ∃ (x dx a : Addr) (vals : List V) (o : Nat), vs = .ref x :: args ∧ Rd H x C dx a o ∧ Vs H a vals ∧
  (∀ y o' v H', p vals o = .ok (y, o') → MvS x H H' → Rd H' x C dx a o' → Val y v H' → Q v H') ∧ ∀ e, p vals o = .error e → Out E CD x H e
def spTake (C CD : Addr) : Sp := fun vs H Q E => ∃ lo hi : Int, spPar C CD (fun vals => pTake vals lo hi) (fun i v _ => v = .int i) [.int lo, .int hi] vs H Q E
abbrev s_Reader_take : Stmt := inClass (top 42) 2
theorem sc_Reader_take : FnScope ["self", "smallest", "largest"] ["self", "smallest", "largest"] (defScope s_Reader_take) := ⟨rfl, rfl, rfl, by decide +kernel, rfl, by decide +kernel, by decide +kernel⟩
theorem ok_take {C p0 p1 CD fD CV fV : Addr} (D : MetAt K C "take" "Reader.take" s_Reader_take ["self", "smallest", "largest"]) (T : XTxt P K mg CD fD CV fV) (RC : RdC K mg C p0 p1) (D_is_number : DefOk P w K mg base CX0 1 "is_number" spNumber) :
    MetOk P w K mg base (L2.CX P w) 2 C "take" (spTake C CD) := by
  refine D.okX sc_Reader_take (fun vs H Q E h => ?_) (fun f cdv A outer s0 H vs Q E hr h => ?_)
  · obtain ⟨lo, hi, x, dx, a, vals, o, rfl, _⟩ := h
    rfl
  · obtain ⟨lo, hi, x, dx, a, vals, o, rfl, R, hv, qo, qe⟩ := h
    refine ⟨_, (pss_cons (ps_if (PW.pt (pw_or (pt_cmpR op_ge (SlX.pe_sl (pv 0)) (pe_callB (show CallR _ _ (rLen K) from call_lenK) rfl T.b_len bt_len (pa_cons (SlX.pe_sl (pv 0)) pa_nil)) (nomark _)) (pw_or1 (pt_not (pt_val (pe_c D_is_number (hr.mono (by decide)) pass0 (pa_cons (pe_ix (show IxR _ (rIxL K) from ix_list) (SlX.pe_sl (pv 0)) (SlX.pe_sl (pv 0)) (fun _ _ => rfl)) (pa_cons (pv 1) (pa_cons (pv 2) pa_nil))))))))) (pss_one (ps_raiseK rfl sh_dec T.dec hr (takes_of rfl rfl rfl rfl) (pk_cons (SlX.pe_sl (pv 0)) pk_nil))) pss_nil) (pss_cons (ps_slA (pv 0) pe_int in_add) (pss_one (ps_ret (pe_ix (show IxR _ (rIxL K) from ix_list) (SlX.pe_sl (pv 0)) (pe_op op_sub (SlX.pe_sl (pv 0)) pe_int) (fun _ _ => rfl)))))), ?_⟩
    have hg : SqL K H a vals := SqL.of hv.g
    have fail : ∀ {D : Ends} {σ : St}, σ[0]? = some (some (.ref x)) → pTake vals lo hi o = .error o → tRaiseK CD "offset" (fun cls d _ H => E cls d H) (tCons (SlX.tSl K (tVar 0) "offset") tNil) D σ H := fun {D σ} e0 e => by
      refine w_raiseK (w_cons (w_off RC e0 R (w_nil ⟨_, rfl, fun d nd => ?_⟩)))
      exact qe o e d _ (MvS.of (Same.updD (Same.refl _) nd)) upd_same
    walk_at "gx"
    refine w_off RC rfl R ?_
    walk_at "gx"
    refine w_codes RC rfl R ?_
    walk_at "gx"
    refine ited (fun hl => ?_) (fun hl => ?_)
    · refine ifT rfl (fail rfl ?_)
      unfold pTake
      rw [List.getElem?_eq_none (by omega)]
    · have ho : o < vals.length := by omega
      have ev := List.getElem?_eq_getElem ho
      have it := hv.ok _ (List.getElem_mem ho)
      generalize vals[o] = v at ev it
      have ha : atI vals o = some v := at_nat ev
      walk_at "gx"
      refine w_codes RC rfl R ?_
      refine w_off RC rfl R ?_
      refine w_ixL (SqL.of hv.g) ha ?_
      walk_at "gx"
      refine ⟨v, lo, hi, rfl, it, _, rfl, ?_⟩
      cases hb : isNum v lo hi with
      | false =>
        refine ifT rfl (fail rfl ?_)
        unfold pTake
        rw [ev]
        cases v with
        | int i =>
          refine if_neg fun z => ?_
          have hb : (decide (lo ≤ i) && decide (i ≤ hi)) = false := hb
          rw [decide_eq_true z.1, decide_eq_true z.2] at hb
          cases hb
        | _ => rfl
      | true =>
        obtain ⟨i, rfl, l1, l2⟩ : ∃ i, v = .int i ∧ lo ≤ i ∧ i ≤ hi := by
          cases v with
          | int i =>
            have hb : (decide (lo ≤ i) && decide (i ≤ hi)) = true := hb
            obtain ⟨h1, h2⟩ := Bool.and_eq_true_iff.mp hb
            exact ⟨i, rfl, of_decide_eq_true h1, of_decide_eq_true h2⟩
          | _ => cases hb
        have ep : pTake vals lo hi o = .ok (i, o + 1) := by
          unfold pTake
          rw [ev]
          exact if_pos ⟨l1, l2⟩
        refine ifF rfl ?_
        obtain ⟨m1, R1⟩ := R.put (o' := o + 1)
        generalize hE : SlX.slH H x C dx [some (.ref a), some (.int ((o + 1 : Nat) : Int))] = H1 at m1 R1
        have v1 := R.vs m1 hv
        refine w_next (w_seq ?_)
        refine ⟨_, rfl, x, C, dx, p1, _, 1, .int o, rfl, R.slt, RC.c, RC.s1, rfl, _, _, rfl, rfl, _, R.slt, ?_⟩
        rw [show SlX.putS 1 (V.int ((o : Int) + 1)) [some (V.ref a), some (V.int o)] = [some (.ref a), some (.int ((o + 1 : Nat) : Int))] from rfl, hE]
        refine w_ret (w_op (w_codes RC rfl R1 (w_op (w_off RC rfl R1 (w_c (w_I0 ?_))))))
        rw [show (((o + 1 : Nat) : Int) - 1) = (o : Int) by omega]
        exact w_ixL (SqL.of v1.g) ha (qo i (o + 1) _ H1 ep m1 R1 rfl)
end
end
section
/-! ### reading with a reader: a list of items, each by the same parser -/
section
theorem rep_err {α : Type} {p : Pr α} {o o1 e : Nat} {l : List α} {i : Nat} (h : Pr.rep p i o = .ok (l, o1)) (f : p o1 = .error e) : ∀ {n : Nat}, i < n → Pr.rep p n o = .error e
  | 0, hn => absurd hn (Nat.not_lt_zero _)
  | n + 1, hn => by
    show Pr.bind (Pr.rep p n) _ o = _
    unfold Pr.bind
    rcases Nat.lt_or_ge i n with z | z
    · rw [rep_err h f z]
    · have ei : i = n := by omega
      subst ei
      rw [h]
      show Pr.bind p _ o1 = _
      unfold Pr.bind
      rw [f]
theorem rep_ok {α : Type} {p : Pr α} {o o1 o2 : Nat} {l : List α} {y : α} {i : Nat} (h : Pr.rep p i o = .ok (l, o1)) (f : p o1 = .ok (y, o2)) : Pr.rep p (i + 1) o = .ok (l ++ [y], o2) := by
  show Pr.bind (Pr.rep p i) _ o = _
  unfold Pr.bind
  rw [h]
  show Pr.bind p _ o1 = _
  unfold Pr.bind
  rw [f]
  rfl
theorem bind_ok {α β : Type} {p : Pr α} {f : α → Pr β} {o o1 : Nat} {x : α} (h : p o = .ok (x, o1)) : Pr.bind p f o = f x o1 := by
  unfold Pr.bind
  rw [h]
theorem bind_err {α β : Type} {p : Pr α} {f : α → Pr β} {o e : Nat} (h : p o = .error e) : Pr.bind p f o = .error e := by
  unfold Pr.bind
  rw [h]
end
section
variable {K : PySem.W.Frag} {C CD : Addr} {E : XK} {σ : St} {H : Hp} {Q : VK} {x dx a : Addr} {vals : List V} {te : TE} {s : Nat} {vs : List Nat}
theorem mv_none {H' : Hp} {D : Addr} (m : MvS x H H') (n : H' D = none) (ne : D ≠ x) : H D = none := by
  cases e : H D with
  | none => rfl
  | some u =>
    rw [m D u ne e] at n
    cases n
theorem lc_par {α : Type} {p : Pr α} {Val : α → V → Hp → Prop} {n o1 : Nat} (W : Hp → List α → List V → Prop) (R1 : Rd H x C dx a o1) (v1 : Vs H a vals) (hn : n ≤ 1000) (w0 : ∀ H', W H' [] [])
    (wm : ∀ {H' H'' : Hp} {o : Nat} {l : List α} {acc : List V}, Rd H' x C dx a o → MvS x H' H'' → W H' l acc → W H'' l acc)
    (wl : ∀ {H' : Hp} {D : Addr} {ys zs : List V} {l : List α} {acc : List V}, H' D = some (.lst ys) → W H' l acc → W (upd H' D (.lst zs)) l acc)
    (ws : ∀ {H' : Hp} {l : List α} {acc : List V} {y : α} {v : V}, W H' l acc → Val y v H' → W H' (l ++ [y]) (acc ++ [v]))
    (hw : ∀ i : Nat, wipe ((wipe σ vs).set s (some (.int i))) vs = wipe σ vs)
    (he : ∀ i o H' (K' : VK), i < n → Rd H' x C dx a o → Vs H' a vals → (∀ y o' v H4, p o = .ok (y, o') → MvS x H' H4 → Rd H4 x C dx a o' → Val y v H4 → K' v H4) → (∀ e, p o = .error e → Out E CD x H' e) → te ((wipe σ vs).set s (some (.int (i : Nat)))) H' K')
    (qo : ∀ l o' acc D H', Pr.rep p n o1 = .ok (l, o') → MvS x H H' → Rd H' x C dx a o' → W H' l acc → acc.length = n → H' D = some (.lst acc) → H D = none → Q (.ref D) H')
    (qe : ∀ e, Pr.rep p n o1 = .error e → Out E CD x H e) : CompOk (Itr 0 n) (gName s) tYes te vs σ Q H := by
  refine lc_of (n := n) (fun i D H' => ∃ l acc o, H D = none ∧ H' D = some (.lst acc) ∧ Pr.rep p i o1 = .ok (l, o) ∧ MvS x H H' ∧ Rd H' x C dx a o ∧ W H' l acc ∧ acc.length = i) (fun D hD => ?_) (fun D H' _ => Nat.le_refl _) (fun i D H' hi _ => hi) ?_ ?_
  · have s0 : Same H (upd H D (.lst [])) := Same.updD (Same.refl _) hD
    exact ⟨[], [], o1, hD, upd_same, rfl, MvS.of s0, R1.same s0, w0 _, rfl⟩
  · rintro i D H0 y H' hi ⟨l, acc, o, hD, gD, hp, m, R, w, la⟩ ⟨e1, e2⟩
    subst e1 e2
    have ez : (0 : Int) + (i : Int) = (i : Nat) := Int.zero_add _
    rw [ez]
    refine w_gname ⟨hw i, w_yes (iteT ?_)⟩
    refine he i o _ _ hi R ⟨m a _ (R1.ne v1.g fun _ z => nomatch z) v1.g, v1.ok, v1.ln⟩ (fun y o' v H4 ep m4 R4 hv => ?_) fun e ep d H4 m4 g4 => ?_
    · have gD4 := R.lst m4 gD
      refine ⟨acc, gD4, smallL (by omega), l ++ [y], acc ++ [v], o', hD, upd_same, rep_ok hp ep, (m.trans m4).updD hD, ?_, wl gD4 (ws (wm R m4 w) hv), by rw [List.length_append, la]; rfl⟩
      have nx : D ≠ x := R4.ne gD4 fun _ z => nomatch z
      have nd : D ≠ dx := fun e => by rw [e, R4.gd] at gD4; cases gD4
      exact ⟨by rw [upd_ne (Ne.symm nx)]; exact R4.gx, by rw [upd_ne (Ne.symm nd)]; exact R4.gd⟩
    · exact qe e (rep_err hp ep hi) d H4 (m.trans m4) g4
  · rintro D H' ⟨l, acc, o, hD, gD, hp, m, R, w, la⟩
    exact qo l o acc D H' hp m R w la gD hD
end
section
variable {P : Program} {w : World} {K : PySem.W.Frag} {mg : Str → Option Value} {base : Heap}
theorem sig_cps : ((".~ABCDEFGHIJKLMNOPQRSTUVWXYZ" : Str)).cps.toList = abcL := by decide +kernel
theorem sig_len : ((".~ABCDEFGHIJKLMNOPQRSTUVWXYZ" : Str)).length = 28 := by decide +kernel
abbrev SIG : Str := ".~ABCDEFGHIJKLMNOPQRSTUVWXYZ"
abbrev tLen : TE := tCB (fun xs H Q => ∃ z, xs = [V.str z] ∧ z.length ≤ sizeLine ∧ Q (V.int z.length) H) (tCons (tC (V.str SIG)) tNil)
theorem w_ls {σ : St} {H : Hp} {Q : VK} (q : Q (.int 28) H) : tLen σ H Q := by
  refine w_cb (w_cons (w_c (w_nil ⟨_, rfl, small (by rw [sig_len]; decide), ?_⟩)))
  rw [sig_len]
  exact q
section
variable {C CD : Addr} {E : XK} {σ : St} {H : Hp} {Q : VK} {i : Nat} {x dx a : Addr} {o : Nat} {vals : List V}
theorem w_ms {sp : Sp} {t : TA} (e : σ[i]? = some (some (.ref x))) (R : Rd H x C dx a o) (q : t σ H fun ws H2 => sp (.ref x :: ws ++ []) H2 Q E) : SlX.tMethSl C (fun vs H Q E => sp (vs ++ []) H Q E) E (tVar i) t σ H Q := ⟨_, e, x, dx, _, rfl, R.slt, q⟩
/-- SIGNS[reader.take(0, len(SIGNS) - 1)] -/
theorem w_sign (e : σ[i]? = some (some (.ref x))) (R : Rd H x C dx a o) (hv : Vs H a vals) (qo : ∀ y o' v H', pSign vals o = .ok (y, o') → MvS x H H' → Rd H' x C dx a o' → v = .str (sg y) → Q v H') (qe : ∀ e, pSign vals o = .error e → Out E CD x H e) :
    tOp rIxS (tC (.str SIG)) (SlX.tMethSl C (fun vs H Q E => spTake C CD (vs ++ []) H Q E) E (tVar i) (tCons (tC (.int 0)) (tCons (tOp (rI0 fun i j => V.int (i - j)) tLen (tC (.int 1))) tNil))) σ H Q := by
  refine w_op (w_c (w_ms e R (w_cons (w_c (w_cons (w_op (w_ls (w_c (w_I0 (w_nil ?_)))))))))) 
  refine ⟨0, 27, x, dx, a, vals, o, rfl, R, hv, fun k o' v H' hp m R' ev => ?_, fun e hp => ?_⟩
  · have hb := post_take o k o' hp
    subst ev
    refine w_ixS (small (by show SIG.length ≤ _; rw [sig_len]; decide)) (by rw [sig_cps]; exact sgn_at hb.1 hb.2) ?_
    exact qo (sgn k) o' _ H' (by unfold pSign; rw [bind_ok hp]; rfl) m R' rfl
  · exact qe e (by unfold pSign; rw [bind_err hp])
/-- "".join([SIGNS[reader.take(0, len(SIGNS) - 1)] for .. in range(n)]), once n is there -/
theorem w_text {s : Nat} {vs : List Nat} {n o1 : Nat} (R1 : Rd H x C dx a o1) (v1 : Vs H a vals) (hn : n ≤ 100) (hw : ∀ i : Nat, wipe ((wipe σ vs).set s (some (.int i))) vs = wipe σ vs) (e : ∀ j : Nat, ((wipe σ vs).set s (some (.int j)))[i]? = some (some (.ref x)))
    (qo : ∀ l o' H', Pr.rep (pSign vals) n o1 = .ok (l, o') → MvS x H H' → Rd H' x C dx a o' → Q (.str (tx l)) H') (qe : ∀ e, Pr.rep (pSign vals) n o1 = .error e → Out E CD x H e) :
    CompOk (Itr 0 n) (gName s) tYes (tOp rIxS (tC (.str SIG)) (SlX.tMethSl C (fun vs H Q E => spTake C CD (vs ++ []) H Q E) E (tVar i) (tCons (tC (.int 0)) (tCons (tOp (rI0 fun i j => V.int (i - j)) tLen (tC (.int 1))) tNil)))) vs σ
      (fun y H2 => ∃ a p, ∃ ys : List Str, V.str "" = V.str a ∧ [y] = [V.ref p] ∧ (SqL K H2 p (ys.map V.str) ∨ SqT K H2 p (ys.map V.str)) ∧ (ys.map (·.length)).sum + ys.length * a.length ≤ 16777216 ∧ Q (.str (Txt.join a ys)) H2) H := by
  refine lc_par (p := pSign vals) (Val := fun y v _ => v = .str (sg y)) (W := fun _ l acc => acc = (l.map sg).map V.str) R1 v1 (by omega) (fun _ => rfl) (fun _ _ h => h) (fun _ h => h) (fun h e => by rw [h, e, List.map_append, List.map_append]; rfl) hw
    (fun j o H' K' hj R v ok er => w_sign (e j) R v ok er) (fun l o' acc D H' hp m R w la g _ => ?_) qe
  subst w
  have ll : l.length = n := by rw [← la, List.length_map, List.length_map]
  refine ⟨"", D, l.map sg, rfl, rfl, .inl (SqL.of g), ?_, ?_⟩
  · rw [sum_ones]
    show l.length + (l.map sg).length * (0 : Nat) ≤ _
    omega
  · have ej : Txt.join ("" : Str) (l.map sg) = tx l := cps_ext (by
      show (Txt.join esg (l.map sg)).cps.toList = _
      rw [join0_ones])
    rw [ej]
    exact qo l o' H' hp m R
end
def spTSgs (C CD : Addr) : Sp := spPar C CD pSigns (fun l v _ => v = .str (tx l)) []
abbrev s_Reader_take_signs : Stmt := inClass (top 42) 3
theorem sc_Reader_take_signs : FnScope ["self", "turn"] ["self"] (defScope s_Reader_take_signs) := ⟨rfl, rfl, rfl, by decide +kernel, rfl, by decide +kernel, by decide +kernel⟩
theorem ok_take_signs {C p0 p1 CD fD CV fV : Addr} (D : MetAt K C "take_signs" "Reader.take_signs" s_Reader_take_signs ["self"]) (T : XTxt P K mg CD fD CV fV) (RC : RdC K mg C p0 p1) (D_take : MetOk P w K mg base (L2.CX P w) 2 C "take" (spTake C CD)) :
    MetOk P w K mg base (L2.CX P w) 3 C "take_signs" (spTSgs C CD) := by
  refine D.okX sc_Reader_take_signs (fun vs H Q E h => ?_) (fun f cdv A outer s0 H vs Q E hr h => ?_)
  · obtain ⟨x, dx, a, vals, o, rfl, _⟩ := h
    rfl
  · obtain ⟨x, dx, a, vals, o, rfl, R, hv, qo, qe⟩ := h
    refine ⟨_, (pss_one (ps_ret (pe_join pe_str (pe_lcX (E := E) (own := [("turn", 1)]) rfl rfl (takes_of rfl rfl rfl rfl) rfl sc_Reader_take_signs.nd (pi_range1 rfl T.b_range (pa_cons (pe_ms (pv 0) RC.c D_take (hr.mono (by decide)) (passes_call (takes_of rfl rfl rfl rfl) fun _ _ _ _ h => h) (pa_cons pe_int (pa_cons (pe_callB call_len_str rfl T.b_len bt_len (pa_cons (pe_k T.SIGNS) pa_nil)) pa_nil))) pa_nil)) (blkOk_by (own := [("turn", 1)]) (N := ["self", "turn"]) (sc := defScope s_Reader_take_signs) (by decide +kernel)) (fun _ _ _ _ _ _ => (pg_name (i := 1) sc_Reader_take_signs.nd rfl (by first | exact Or.inl rfl | exact Or.inr rfl))) (fun _ _ _ _ _ _ hxE => (pe_ix ix_str (pe_k T.SIGNS) (pe_ms (pv 0) RC.c D_take (hr.mono (by decide)) hxE (pa_cons pe_int (pa_cons (pe_op op_sub (pe_callB call_len_str rfl T.b_len bt_len (pa_cons (pe_k T.SIGNS) pa_nil)) pe_int) pa_nil))) (fun _ _ => rfl))))))), ?_⟩
    walk_at "gx"
    refine ⟨⟨_, rfl⟩, w_lc (w_iRng1 (w_cons (w_ms rfl R (w_cons (w_c (w_cons (w_ls (w_nil ?_))))))))⟩
    refine ⟨1, 28, x, dx, a, vals, o, rfl, R, hv, fun k o1 v H1 hp m1 R1 ev => ?_, fun e hp => qe e (by unfold pSigns; rw [bind_err hp])⟩
    have hb := post_take o k o1 hp
    subst ev
    obtain ⟨n, rfl⟩ : ∃ n : Nat, k = n := ⟨k.toNat, by omega⟩
    have v1 := R.vs m1 hv
    refine w_nil ⟨_, rfl, by omega, by omega, ?_⟩
    rw [Int.toNat_natCast]
    refine w_text (Q := Q) R1 v1 (by omega) (fun _ => rfl) (fun _ => rfl) (fun l o' H2 hl m2 R2 => ?_) (fun e hl d H2 m2 g => ?_)
    · exact qo l o' _ H2 (by unfold pSigns; rw [bind_ok hp]; exact hl) (m1.trans m2) R2 rfl
    · exact qe e (by unfold pSigns; rw [bind_ok hp]; exact hl) d H2 (m1.trans m2) g
end
end
section
/-! ### take_turns, take_instruction -/
theorem upto_err {α : Type} {ps : Nat → Pr α} {o o1 e : Nat} {l : List α} {i : Nat} (h : Pr.upto ps i o = .ok (l, o1)) (f : ps i o1 = .error e) : ∀ {n : Nat}, i < n → Pr.upto ps n o = .error e
  | 0, hn => absurd hn (Nat.not_lt_zero _)
  | n + 1, hn => by
    show Pr.bind (Pr.upto ps n) _ o = _
    rcases Nat.lt_or_ge i n with z | z
    · rw [bind_err (upto_err h f z)]
    · have ei : i = n := by omega
      subst ei
      rw [bind_ok h, bind_err f]
theorem upto_ok {α : Type} {ps : Nat → Pr α} {o o1 o2 : Nat} {l : List α} {y : α} {i : Nat} (h : Pr.upto ps i o = .ok (l, o1)) (f : ps i o1 = .ok (y, o2)) : Pr.upto ps (i + 1) o = .ok (l ++ [y], o2) := by
  show Pr.bind (Pr.upto ps i) _ o = _
  rw [bind_ok h, bind_ok f]
  rfl
/-- the forms' names by their signs -/
def fnm : Nat → Str
  | 78 => "numbers" | 110 => "number" | 115 => "signs" | _ => "all"
/-- HEADS, FORMS: objects of the top -/
structure TTxt (P : Program) (w : World) (K : PySem.W.Frag) (mg : Str → Option Value) (CD fD CV fV hA oA : Addr) (es : Array DictEntry) (n : Nat) : Prop extends XTxt P K mg CD fD CV fV where
  HEADS : ∃ u, mg "HEADS" = some u ∧ RelV (.ref hA) u
  headsT : ∀ H, SqT K H hA [.str "turn", .str "walk", .str "until", .str "toward", .str "beside", .str "near", .str "shore"]
  FORMS : ∃ u, mg "FORMS" = some u ∧ RelV (.ref oA) u
  formsD : KDict K w oA es n
  formsAt : ∀ k < 7, ∃ fa : Addr, PySem.W.nsIn K oA (hdw k) = some (some (.ref fa)) ∧ ∀ H, SqT K H fa ((frm k).map fun c => V.str (fnm c))
section
variable {P : Program} {w : World} {K : PySem.W.Frag} {mg : Str → Option Value} {base : Heap}
theorem w_tKD {d : Addr} {td ty : TE} {σ : St} {H : Hp} {Q : VK} (q : td σ H fun x H1 => ty σ H1 fun y H2 => ∃ (z : Str) (u : Value) (v : V), x = .ref d ∧ y = .str z ∧ PySem.W.nsIn K d z = some (some u) ∧ RelV v u ∧ Q v H2) : tKD K d td ty σ H Q := q
def TnAt (K : PySem.W.Frag) (l : List Int) (v : V) (H : Hp) : Prop := ∃ t, v = .ref t ∧ SqT K H t (l.map V.int)
def spTTns (K : PySem.W.Frag) (C CD : Addr) : Sp := spPar C CD pTurns (TnAt K) []
abbrev s_Reader_take_turns : Stmt := inClass (top 42) 4
theorem sc_Reader_take_turns : FnScope ["self", "turn"] ["self"] (defScope s_Reader_take_turns) := ⟨rfl, rfl, rfl, by decide +kernel, rfl, by decide +kernel, by decide +kernel⟩
theorem ok_take_turns {C p0 p1 CD fD CV fV : Addr} (D : MetAt K C "take_turns" "Reader.take_turns" s_Reader_take_turns ["self"]) (T : XTxt P K mg CD fD CV fV) (RC : RdC K mg C p0 p1) (D_take : MetOk P w K mg base (L2.CX P w) 2 C "take" (spTake C CD)) :
    MetOk P w K mg base (L2.CX P w) 3 C "take_turns" (spTTns K C CD) := by
  refine D.okX sc_Reader_take_turns (fun vs H Q E h => ?_) (fun f cdv A outer s0 H vs Q E hr h => ?_)
  · obtain ⟨x, dx, a, vals, o, rfl, _⟩ := h
    rfl
  · obtain ⟨x, dx, a, vals, o, rfl, R, hv, qo, qe⟩ := h
    refine ⟨_, (pss_one (ps_ret (pe_callTy call_tuple_of rfl T.b_tuple bt_tuple (pa_cons (pe_lcX (E := E) (own := [("turn", 1)]) rfl rfl (takes_of rfl rfl rfl rfl) rfl sc_Reader_take_turns.nd (pi_range1 rfl T.b_range (pa_cons (pe_ms (pv 0) RC.c D_take (hr.mono (by decide)) (passes_call (takes_of rfl rfl rfl rfl) fun _ _ _ _ h => h) (pa_cons pe_int (pa_cons pe_int pa_nil))) pa_nil)) (blkOk_by (own := [("turn", 1)]) (N := ["self", "turn"]) (sc := defScope s_Reader_take_turns) (by decide +kernel)) (fun _ _ _ _ _ _ => (pg_name (i := 1) sc_Reader_take_turns.nd rfl (by first | exact Or.inl rfl | exact Or.inr rfl))) (fun _ _ _ _ _ _ hxE => (pe_ms (pv 0) RC.c D_take (hr.mono (by decide)) hxE (pa_cons pe_int (pa_cons pe_int pa_nil))))) pa_nil)))), ?_⟩
    walk_at "gx"
    refine w_ms rfl R (w_cons (w_c (w_cons (w_c (w_nil ?_)))))
    refine ⟨1, 4, x, dx, a, vals, o, rfl, R, hv, fun k o1 v H1 hp m1 R1 ev => ?_, fun e hp => qe e (by unfold pTurns; rw [bind_err hp])⟩
    have hb := post_take o k o1 hp
    subst ev
    obtain ⟨n, rfl⟩ : ∃ n : Nat, k = n := ⟨k.toNat, by omega⟩
    have v1 := R.vs m1 hv
    refine w_nil ⟨_, rfl, by omega, by omega, ?_⟩
    rw [Int.toNat_natCast]
    refine lc_par (E := E) (CD := CD) (p := pTake vals 0 3) (Val := fun i v _ => v = .int i) (W := fun _ l acc => acc = l.map V.int) R1 v1 (by omega) (fun _ => rfl) (fun _ _ h => h) (fun _ h => h) (fun h e => by rw [h, e, List.map_append]; rfl) (fun _ => rfl) ?_ (fun l o' acc D H' hl m2 R2 w la g _ => ?_) (fun e hl d H2 m2 g => ?_)
    · intro j o H' K' hj R v ok er
      exact w_ms rfl R (w_cons (w_c (w_cons (w_c (w_nil ⟨0, 3, x, dx, a, vals, o, rfl, R, v, ok, er⟩)))))
    · subst w
      refine w_nil ⟨D, _, rfl, .inl ⟨SqL.of g, fun p np => ?_⟩⟩
      generalize hE : upd H' p _ = H3; obtain ⟨k3, g3⟩ := updN np hE
      exact qo l o' _ H3 (by unfold pTurns; rw [bind_ok hp]; exact hl) ((m1.trans m2).trans (MvS.of k3)) (R2.same k3) ⟨p, rfl, SqT.of g3⟩
    · exact qe e (by unfold pTurns; rw [bind_ok hp]; exact hl) d H2 (m1.trans m2) g
def InAtV (K : PySem.W.Frag) (i : Ins) (v : V) (H : Hp) : Prop := ∃ t, v = .ref t ∧ InsAt K H t i
def spTIns (K : PySem.W.Frag) (C CD : Addr) : Sp := spPar C CD pIns (InAtV K) []
abbrev s_Reader_take_instruction : Stmt := inClass (top 42) 5
theorem sc_Reader_take_instruction : FnScope ["self", "word", "found", "form"] ["self"] (defScope s_Reader_take_instruction) := ⟨rfl, rfl, rfl, by decide +kernel, rfl, by decide +kernel, by decide +kernel⟩
theorem ok_take_instruction {C p0 p1 CD fD CV fV hA oA : Addr} {es : Array DictEntry} {n : Nat} (D : MetAt K C "take_instruction" "Reader.take_instruction" s_Reader_take_instruction ["self"]) (T : TTxt P w K mg CD fD CV fV hA oA es n) (RC : RdC K mg C p0 p1)
    (D_take : MetOk P w K mg base (L2.CX P w) 2 C "take" (spTake C CD)) (D_take_signs : MetOk P w K mg base (L2.CX P w) 3 C "take_signs" (spTSgs C CD)) (D_take_turns : MetOk P w K mg base (L2.CX P w) 3 C "take_turns" (spTTns K C CD)) :
    MetOk P w K mg base (L2.CX P w) 4 C "take_instruction" (spTIns K C CD) := by
  refine D.okX sc_Reader_take_instruction (fun vs H Q E h => ?_) (fun f cdv A outer s0 H vs Q E hr h => ?_)
  · obtain ⟨x, dx, a, vals, o, rfl, _⟩ := h
    rfl
  · obtain ⟨x, dx, a, vals, o, rfl, R, hv, qo, qe⟩ := h
    refine ⟨_, (pss_cons (ps_set (i := 1) sc_Reader_take_instruction.nd rfl (by first | exact Or.inl rfl | exact Or.inr rfl) (pe_ix (show IxR _ (rIxT K) from ix_tup) (pe_k T.HEADS) (pe_ms (pv 0) RC.c D_take (hr.mono (by decide)) (passes_call (takes_of rfl rfl rfl rfl) fun _ _ _ _ h => h) (pa_cons pe_int (pa_cons (pe_op op_sub (pe_callB (show CallR _ _ (rLen K) from call_lenK) rfl T.b_len bt_len (pa_cons (pe_k T.HEADS) pa_nil)) pe_int) pa_nil))) (fun _ _ => rfl))) (pss_cons (ps_set (i := 2) sc_Reader_take_instruction.nd rfl (by first | exact Or.inl rfl | exact Or.inr rfl) (pe_tup (pa_cons (pv 1) pa_nil))) (pss_cons (ps_for (passes_of rfl) rfl (show PI _ _ _ (iTup K _) from pi_tup (pe_kd T.formsD (pe_k T.FORMS) (pv 1) (fun _ _ => rfl))) (pg_name (i := 3) sc_Reader_take_instruction.nd rfl (by first | exact Or.inl rfl | exact Or.inr rfl)) (pss_one (ps_if (pt_cmpR op_eq (pv 3) pe_str (nomark _)) (pss_one (ps_set (i := 2) sc_Reader_take_instruction.nd rfl (by first | exact Or.inl rfl | exact Or.inr rfl) (pe_op (show OpR _ (binaryOp .Add) (rCatA K) from op_catA) (pv 2) (pe_tup (pa_cons (pe_ms (pv 0) RC.c D_take (hr.mono (by decide)) (passes_call (takes_of rfl rfl rfl rfl) fun _ _ _ _ h => h) (pa_cons pe_int (pa_cons (pe_k T.MAX_CODE) pa_nil))) pa_nil))))) (pss_one (ps_set (i := 2) sc_Reader_take_instruction.nd rfl (by first | exact Or.inl rfl | exact Or.inr rfl) (pe_op (show OpR _ (binaryOp .Add) (rCatA K) from op_catA) (pv 2) (pe_tup (pa_cons (pe_ifExp (pt_cmpR op_eq (pv 3) pe_str (nomark _)) (pe_ms0 (pv 0) RC.c D_take_turns (hr.mono (by decide)) (passes_call (takes_of rfl rfl rfl rfl) fun _ _ _ _ h => h)) (pe_ms0 (pv 0) RC.c D_take_signs (hr.mono (by decide)) (passes_call (takes_of rfl rfl rfl rfl) fun _ _ _ _ h => h))) pa_nil)))))))) (pss_one (ps_ret (pv 2)))))), ?_⟩
    walk_at "gx"
    refine w_ms rfl R (w_cons (w_c (w_cons (w_op (w_cb (w_cons (w_c (w_nil (w_lenT (T.headsT H) (w_c (w_I0 (w_nil ?_))))))))))))
    refine ⟨0, 6, x, dx, a, vals, o, rfl, R, hv, fun kk o1 v H1 hp m1 R1 ev => ?_, fun e hp => qe e (by unfold pIns; rw [bind_err hp])⟩
    have hb := post_take o kk o1 hp
    subst ev
    obtain ⟨k, rfl⟩ : ∃ n : Nat, kk = n := ⟨kk.toNat, by omega⟩
    have h7 : k = 0 ∨ k = 1 ∨ k = 2 ∨ k = 3 ∨ k = 4 ∨ k = 5 ∨ k = 6 := by omega
    have hk : atI [V.str "turn", .str "walk", .str "until", .str "toward", .str "beside", .str "near", .str "shore"] (k : Int) = some (.str (hdw k)) := by
      rcases h7 with rfl | rfl | rfl | rfl | rfl | rfl | rfl <;> rfl
    have v1 := R.vs m1 hv
    refine w_ixT (T.headsT H1) hk ?_
    walk_at "gx"
    refine ⟨small (by simp), fun p2 n2 => ?_⟩
    generalize hE2 : upd H1 p2 _ = H2; obtain ⟨k2, g2⟩ := updN n2 hE2
    have m2 := m1.trans (MvS.of k2)
    have R2 := R1.same k2
    have v2 : Vs H2 a vals := ⟨k2 _ _ v1.g, v1.ok, v1.ln⟩
    have fl : (frm k).length ≤ 3 := by
      rcases h7 with rfl | rfl | rfl | rfl | rfl | rfl | rfl <;> decide
    obtain ⟨fa, fn, ft⟩ := T.formsAt k (by omega)
    walk_at "g1"
    walk_at "g1"
    walk_at "g1"
    walk_at "g1"
    refine w_tKD (w_c (w_var rfl ⟨hdw k, _, .ref fa, rfl, rfl, fn, rfl, fa, rfl, ?_⟩))
    refine lp_tup (ft H2) (fun m σ H' => ∃ (op : Addr) (ps : List Pt) (us : List V) (v3 : Option V) (o' : Nat), σ = [some (.ref x), some (.str (hdw k)), some (.ref op), v3] ∧ Pr.upto (fun i => pPart vals ((frm k)[i]?.getD 0)) m o1 = .ok (ps, o') ∧ MvS x H H' ∧ Rd H' x C dx a o' ∧ Vs H' a vals ∧
        SqT K H' op (.str (hdw k) :: us) ∧ Paired (PtIs K H') ps us ∧ us.length = m)
      ⟨p2, [], [], none, o1, rfl, rfl, m2, R2, v2, SqT.of g2, .nil, rfl⟩ (fun i σ H' _ _ => ft H') ?_ ?_
    · rintro m z σ H3 hz ⟨op, ps, us, v3, o', rfl, hu, m3, R3, v4, go, pp, lu⟩
      rw [List.getElem?_map] at hz
      cases hc : (frm k)[m]? with
      | none => rw [hc] at hz; cases hz
      | some c =>
        rw [hc] at hz
        cases hz
        have ml := (List.getElem?_eq_some_iff.mp hc).1
        have pe : pPart vals ((frm k)[m]?.getD 0) = pPart vals c := by rw [hc]; rfl
        have bad : ∀ {e : Nat} {H4 : Hp}, pPart vals c o' = .error e → MvS x H H4 → Out E CD x H4 e := fun {e H4} he m4 d H5 m5 g5 => by
          refine qe e ?_ d H5 (m4.trans m5) g5
          unfold pIns
          rw [bind_ok hp]
          refine bind_err ?_
          rw [Int.toNat_natCast]
          exact upto_err hu (by rw [pe]; exact he) ml
        have next : ∀ {y : Pt} {v : V} {o2 : Nat} {H4 : Hp} {Dd : Ends}, pPart vals c o' = .ok (y, o2) → MvS x H3 H4 → Rd H4 x C dx a o2 → PtIs K H4 y v → (∀ σ' H', (∃ (op : Addr) (ps : List Pt) (us : List V) (v3 : Option V) (o' : Nat), σ' = [some (.ref x), some (.str (hdw k)), some (.ref op), v3] ∧ Pr.upto (fun i => pPart vals ((frm k)[i]?.getD 0)) (m + 1) o1 = .ok (ps, o') ∧ MvS x H H' ∧ Rd H' x C dx a o' ∧ Vs H' a vals ∧
            SqT K H' op (.str (hdw k) :: us) ∧ Paired (PtIs K H') ps us ∧ us.length = m + 1) → Dd.nx σ' H') →
            ([v] : List V).length ≤ sizeLine ∧ ∀ p, H4 p = none → rCatA K (.ref op) (.ref p) (upd H4 p (.tup [v])) fun u H5 => gName 2 u [some (.ref x), some (.str (hdw k)), some (.ref op), some (.str (fnm c))] H5 Dd.nx := fun {y v o2 H4 Dd} hy m4 R4 hv4 fin => by
          refine ⟨small (by simp), fun p5 n5 => ?_⟩
          generalize hE5 : upd H4 p5 _ = H5; obtain ⟨k5, g5⟩ := updN n5 hE5
          have t4 : ∀ (b : Addr) (xs : List V), SqT K H3 b xs → SqT K H4 b xs := fun b xs q => R3.tup m4 q
          refine w_catA (Same.seqT k5 (t4 _ _ go)) (SqT.of g5) (small (by simp; omega)) fun p6 H6 k6 g6 => ?_
          have t6 : ∀ (b : Addr) (xs : List V), SqT K H4 b xs → SqT K H6 b xs := fun b xs q => Same.seqT k6 (Same.seqT k5 q)
          refine w_gname (fin _ _ ⟨p6, ps ++ [y], us ++ [v], _, o2, rfl, upto_ok hu (by rw [pe]; exact hy), ((m3.trans m4).trans (MvS.of k5)).trans (MvS.of k6), (R4.same k5).same k6, ?_, g6, prd_snoc (Paired.mapP pp fun _ _ q => (q.tup t4).tup t6) (hv4.tup t6), by rw [List.length_append, lu]; rfl⟩)
          have v5 := R3.vs m4 v4
          exact ⟨k6 _ _ (k5 _ _ v5.g), v5.ok, v5.ln⟩
        walk_at "g1"
        walk_at "g1"
        walk_at "g1"
        walk_at "g1"
        walk_at "g1"
        walk_at "g1"
        refine w_eq rfl ⟨_, rfl, ?_⟩
        have hc4 : c = 78 ∨ c = 110 ∨ c = 115 ∨ c = 97 := by
          have hm := List.mem_of_getElem? hc
          rcases h7 with rfl | rfl | rfl | rfl | rfl | rfl | rfl <;> simp [frm] at hm <;> omega
        by_cases c1 : c = 110
        · subst c1
          refine wdT rfl (w_asg (w_op (w_var rfl (w_tup (w_cons (w_ms rfl R3 (w_cons (w_c (w_cons (w_c (w_nil ?_)))))))))))
          refine ⟨0, 99, x, dx, a, vals, o', rfl, R3, v4, fun i o2 v H4 hi m4 R4 ev => ?_, fun e he => bad (by show Pr.bind _ _ _ = _; rw [bind_err he]) m3⟩
          refine w_nil (next (y := .n i) (by show Pr.bind _ _ _ = _; rw [bind_ok hi]; rfl) m4 R4 ev fun σ' H' z => z)
        · refine wdF (show fnm c ≠ "number" by rcases hc4 with rfl | rfl | rfl | rfl <;> first | exact absurd rfl c1 | decide) ?_
          by_cases c2 : c = 78
          · subst c2
            refine w_asg (w_op (w_var rfl (w_tup (w_cons (w_if (w_test (w_op (w_var rfl (w_c (w_eq rfl ⟨_, rfl, wdT rfl ?_⟩))))))))))
            refine w_ms rfl R3 (w_nil ⟨x, dx, a, vals, o', rfl, R3, v4, fun ts o2 v H4 hi m4 R4 ev => ?_, fun e he => bad (by show Pr.bind _ _ _ = _; rw [bind_err he]) m3⟩)
            exact w_nil (next (y := .N ts) (by show Pr.bind _ _ _ = _; rw [bind_ok hi]; rfl) m4 R4 ev fun σ' H' z => z)
          · refine w_asg (w_op (w_var rfl (w_tup (w_cons (w_if (w_test (w_op (w_var rfl (w_c (w_eq rfl ⟨_, rfl, wdF (show fnm c ≠ "numbers" by rcases hc4 with rfl | rfl | rfl | rfl <;> first | exact absurd rfl c2 | decide) ?_⟩))))))))))
            have ep : pPart vals c = Pr.bind (pSigns vals) fun l => Pr.pure (.s l) := by
              unfold pPart
              rw [if_neg c1, if_neg c2]
            refine w_ms rfl R3 (w_nil ⟨x, dx, a, vals, o', rfl, R3, v4, fun l o2 v H4 hi m4 R4 ev => ?_, fun e he => bad (by rw [ep, bind_err he]) m3⟩)
            exact w_nil (next (y := .s l) (by rw [ep, bind_ok hi]; rfl) m4 R4 ev fun σ' H' z => z)
    · rintro σ H3 ⟨op, ps, us, v3, o', rfl, hu, m3, R3, v4, go, pp, lu⟩
      rw [List.length_map] at hu
      refine w_ret (w_var rfl (qo (k, ps) o' _ H3 ?_ m3 R3 ⟨op, rfl, us, go, pp⟩))
      unfold pIns
      rw [bind_ok hp, Int.toNat_natCast, bind_ok hu]
      rfl
end
end
section
/-! ### decode_map -/
theorem code_err {vals : List V} {e : Nat} (h : pMap vals 0 = .error e) : codeOf vals = .error e := by
  unfold codeOf
  rw [h]
theorem exists_ins : ∀ {l : List Ins}, (∀ i ∈ l, InsOk i) → ∃ is : List InF, l = is.map InF.ins
  | [], _ => ⟨[], rfl⟩
  | i :: r, h => by
    obtain ⟨f, e, _⟩ := h i List.mem_cons_self
    obtain ⟨is, er⟩ := exists_ins (l := r) fun j hj => h j (List.mem_cons_of_mem _ hj)
    exact ⟨f :: is, by rw [e, er]; rfl⟩
theorem mk_same {H : Hp} {x d : Addr} {o1 o2 : HO} (hx : H x = none) (hd : H d = none) : Same H (upd (upd H d o1) x o2) := fun b u e => by
  rw [upd_ne (ne_of_none e hx), upd_ne (ne_of_none e hd)]
  exact e
section
variable {K : PySem.W.Frag} {C CD : Addr} {E : XK} {σ : St} {H : Hp} {Q : VK} {i s : Nat} {vs : List Nat} {x dx a : Addr} {vals : List V}
theorem w_mk {sp : Sp} {t : TA} (q : t σ H fun vs H1 => ∀ x dx, H1 x = none → H1 dx = none → dx ≠ x → sp (.ref x :: (vs ++ [])) (upd (upd H1 dx (.own x)) x (.ins C dx [])) (fun v H2 => v = .non ∧ Q (.ref x) H2) E) : tMake C sp [] E t σ H Q := q
/-- "".join([SIGNS[reader.take(0, len(SIGNS) - 1)] for .. in range(n)]) -/
theorem w_joinM {k n o1 : Nat} (ek : σ[k]? = some (some (.int n))) (hn : n ≤ 100) (R1 : Rd H x C dx a o1) (v1 : Vs H a vals) (hw : ∀ i : Nat, wipe ((wipe σ vs).set s (some (.int i))) vs = wipe σ vs) (e : ∀ j : Nat, ((wipe σ vs).set s (some (.int j)))[i]? = some (some (.ref x)))
    (qo : ∀ l o' H', Pr.rep (pSign vals) n o1 = .ok (l, o') → MvS x H H' → Rd H' x C dx a o' → Q (.str (tx l)) H') (qe : ∀ e, Pr.rep (pSign vals) n o1 = .error e → Out E CD x H e) :
    tM1 (fun x xs H Q => ∃ a p, ∃ ys : List Str, x = .str a ∧ xs = [.ref p] ∧ (SqL K H p (ys.map V.str) ∨ SqT K H p (ys.map V.str)) ∧ (ys.map (·.length)).sum + ys.length * a.length ≤ 16777216 ∧ Q (.str (Txt.join a ys)) H) (tC (.str ""))
      (tLc (iRng1 (tCons (tVar k) tNil)) (gName s) tYes (tOp rIxS (tC (.str SIG)) (SlX.tMethSl C (fun vs H Q E => spTake C CD (vs ++ []) H Q E) E (tVar i) (tCons (tC (.int 0)) (tCons (tOp (rI0 fun i j => V.int (i - j)) tLen (tC (.int 1))) tNil)))) vs) σ H Q := by
  refine ⟨⟨_, rfl⟩, w_lc (w_iRng1 (w_cons (w_var ek (w_nil ⟨_, rfl, by omega, by omega, ?_⟩))))⟩
  rw [Int.toNat_natCast]
  exact w_text (Q := Q) R1 v1 hn hw e qo qe
end
section
variable {P : Program} {w : World} {K : PySem.W.Frag} {mg : Str → Option Value} {base : Heap}
/-- a map at p -/
def MapAt (K : PySem.W.Frag) (CM CI : Addr) (H : Hp) (p : Addr) (m : MapD) : Prop := ∃ (dx isl dy ra fa t : Addr) (DD : DL), H p = some (.ins CM dx [("own_island", .ref isl), ("own_signs", .str (tx m.z)), ("own_facings", .ref fa), ("own_instructions", .ref t)]) ∧
  H isl = some (.ins CI dy [("own_rows", .ref ra)]) ∧ SqT K H ra (m.rows.map fun r => V.str (tx r)) ∧ SqT K H fa (m.fs.map V.int) ∧ SqT K H t (drefs DD) ∧ DD.map (·.2) = m.is ∧ ∀ p ∈ DD, InsAt K H p.1 p.2
def spDecode (K : PySem.W.Frag) (CM CI CD CV : Addr) : Sp := fun vs H Q E => ∃ (a : Addr) (vals : List V), vs = [.ref a] ∧ Vs H a vals ∧
  (∀ e d H', codeOf vals = .error e → Same H H' → H' d = some (.xd [("offset", .int (e : Nat))]) → E (.ref CD) (some d) H') ∧
  ∀ m is, codeOf vals = .ok m → m.is = is.map InF.ins → (∀ k d H', faultOf m is = some k → Same H H' → H' d = some (.xd [("index", .int k)]) → E (.ref CV) (some d) H') ∧ ∀ p H', faultOf m is = none → Same H H' → MapAt K CM CI H' p m → Q (.ref p) H'
abbrev s_decode_map : Stmt := top 43
theorem sc_decode_map : FnScope ["values", "reader", "height", "width", "rows", "row", "column", "signs", "facings", "instructions", "turn", "due"] ["values"] (defScope s_decode_map) := ⟨rfl, rfl, rfl, by decide +kernel, rfl, by decide +kernel, by decide +kernel⟩
theorem ok_decode {C p0 p1 CM CI CD fD CV fV hA oA : Addr} {es : Array DictEntry} {n : Nat} (D : DefAt K mg "decode_map" s_decode_map ["values"]) (T : TTxt P w K mg CD fD CV fV hA oA es n) (RC : RdC K mg C p0 p1) (IC : IslC K mg CI) (MC : MapC K mg CM)
    (D_Reader : MetOk P w K mg base CX0 1 C "__init__" (spRd C)) (D_Island : MetOk P w K mg base CX0 1 CI "__init__" (spIsl K CI)) (D_Map : MetOk P w K mg base (L2.CX P w) 4 CM "__init__" (spMap K CM CV))
    (D_take : MetOk P w K mg base (L2.CX P w) 2 C "take" (spTake C CD)) (D_take_signs : MetOk P w K mg base (L2.CX P w) 3 C "take_signs" (spTSgs C CD)) (D_take_turns : MetOk P w K mg base (L2.CX P w) 3 C "take_turns" (spTTns K C CD))
    (D_take_instruction : MetOk P w K mg base (L2.CX P w) 4 C "take_instruction" (spTIns K C CD)) (D_checksum : DefOk P w K mg base CX0 1 "checksum" (spSum K)) : DefOk P w K mg base (L2.CX P w) 6 "decode_map" (spDecode K CM CI CD CV) := by
  refine D.okX sc_decode_map (fun vs H Q E h => ?_) (fun f cdv A outer s0 H vs Q E hr h => ?_)
  · obtain ⟨a, vals, rfl, _⟩ := h
    rfl
  · obtain ⟨a, vals, rfl, hv, qe, qo⟩ := h
    refine ⟨_, (pss_cons (ps_set (i := 1) sc_decode_map.nd rfl (by first | exact Or.inl rfl | exact Or.inr rfl) (pe_mk RC.mk1 D_Reader (hr.mono (by decide)) RC.g pass0 (pa_cons (pv 0) pa_nil))) (pss_cons (ps_expr (pe_ms (pv 1) RC.c D_take (hr.mono (by decide)) (passes_call (takes_of rfl rfl rfl rfl) fun _ _ _ _ h => h) (pa_cons (pe_k T.FIRST) (pa_cons (pe_k T.FIRST) pa_nil)))) (pss_cons (ps_par (i := 2) (j := 3) rfl sc_decode_map.nd rfl rfl (by decide) rfl rfl (pa_cons (pe_ms (pv 1) RC.c D_take (hr.mono (by decide)) (passes_call (takes_of rfl rfl rfl rfl) fun _ _ _ _ h => h) (pa_cons pe_int (pa_cons (pe_k T.MAX_SIZE) pa_nil))) (pa_cons (pe_ms (pv 1) RC.c D_take (hr.mono (by decide)) (passes_call (takes_of rfl rfl rfl rfl) fun _ _ _ _ h => h) (pa_cons pe_int (pa_cons (pe_k T.MAX_SIZE) pa_nil))) pa_nil)) (by rfl)) (pss_cons (ps_set (i := 4) sc_decode_map.nd rfl (by first | exact Or.inl rfl | exact Or.inr rfl) (pe_lst pa_nil)) (pss_cons (ps_for (passes_of rfl) rfl (pi_range1 rfl T.b_range (pa_cons (pv 2) pa_nil)) (pg_name (i := 5) sc_decode_map.nd rfl (by first | exact Or.inl rfl | exact Or.inr rfl)) (pss_one (ps_expr (pe_bm PySem.F.plainAttrs_list PySem.F.slot_list_append PySem.F.type_list_append mt_append (pv 4) (pa_cons (pe_join pe_str (pe_lcX (E := E) (own := [("column", 6)]) rfl rfl (takes_of rfl rfl rfl rfl) rfl sc_decode_map.nd (pi_range1 rfl T.b_range (pa_cons (pv 3) pa_nil)) (blkOk_by (own := [("column", 6)]) (N := ["values", "reader", "height", "width", "rows", "row", "column", "signs", "facings", "instructions", "turn", "due"]) (sc := defScope s_decode_map) (by decide +kernel)) (fun _ _ _ _ _ _ => (pg_name (i := 6) sc_decode_map.nd rfl (by first | exact Or.inl rfl | exact Or.inr rfl))) (fun _ _ _ _ _ _ hxE => (pe_ix ix_str (pe_k T.SIGNS) (pe_ms (pv 1) RC.c D_take (hr.mono (by decide)) hxE (pa_cons pe_int (pa_cons (pe_op op_sub (pe_callB call_len_str rfl T.b_len bt_len (pa_cons (pe_k T.SIGNS) pa_nil)) pe_int) pa_nil))) (fun _ _ => rfl))))) pa_nil))))) (pss_cons (ps_par (i := 7) (j := 8) rfl sc_decode_map.nd rfl rfl (by decide) rfl rfl (pa_cons (pe_ms0 (pv 1) RC.c D_take_signs (hr.mono (by decide)) (passes_call (takes_of rfl rfl rfl rfl) fun _ _ _ _ h => h)) (pa_cons (pe_ms0 (pv 1) RC.c D_take_turns (hr.mono (by decide)) (passes_call (takes_of rfl rfl rfl rfl) fun _ _ _ _ h => h)) pa_nil)) (by rfl)) (pss_cons (ps_setLcX (i := 9) (E := E) (own := [("turn", 10)]) rfl rfl (takes_of rfl rfl rfl rfl) rfl sc_decode_map.nd rfl rfl (sw_true rfl rfl rfl (by decide +kernel)) (pi_range1 rfl T.b_range (pa_cons (pe_ms (pv 1) RC.c D_take (hr.mono (by decide)) (passes_call (takes_of rfl rfl rfl rfl) fun _ _ _ _ h => h) (pa_cons pe_int (pa_cons (pe_k T.MAX_INSTRUCTIONS) pa_nil))) pa_nil)) (blkOk_by (own := [("turn", 10)]) (N := ["values", "reader", "height", "width", "rows", "row", "column", "signs", "facings", "instructions", "turn", "due"]) (sc := defScope s_decode_map) (by decide +kernel)) (fun _ _ _ _ _ _ => (pg_name (i := 10) sc_decode_map.nd rfl (by first | exact Or.inl rfl | exact Or.inr rfl))) (fun _ _ _ _ _ _ hxE => (pe_ms0 (pv 1) RC.c D_take_instruction (hr.mono (by decide)) hxE))) (pss_cons (ps_set (i := 11) sc_decode_map.nd rfl (by first | exact Or.inl rfl | exact Or.inr rfl) (pe_c D_checksum (hr.mono (by decide)) pass0 (pa_cons (pe_slice (show SlR _ (rSlL K) from sl_list) (pv 0) po_none (po_some (SlX.pe_sl (pv 1)))) pa_nil))) (pss_cons (ps_expr (pe_ms (pv 1) RC.c D_take (hr.mono (by decide)) (passes_call (takes_of rfl rfl rfl rfl) fun _ _ _ _ h => h) (pa_cons (pv 11) (pa_cons (pv 11) pa_nil)))) (pss_cons (ps_if (pt_cmpR op_lt (SlX.pe_sl (pv 1)) (pe_callB (show CallR _ _ (rLen K) from call_lenK) rfl T.b_len bt_len (pa_cons (pv 0) pa_nil)) (nomark _)) (pss_one (ps_raiseK rfl sh_dec T.dec hr (takes_of rfl rfl rfl rfl) (pk_cons (SlX.pe_sl (pv 1)) pk_nil))) pss_nil) (pss_one (ps_ret (pe_mk MC.mk1 D_Map (hr.mono (by decide)) MC.g (passes_call (takes_of rfl rfl rfl rfl) fun _ _ _ _ h => h) (pa_cons (pe_mk IC.mk1 D_Island (hr.mono (by decide)) IC.g pass0 (pa_cons (pe_callTy call_tuple_of rfl T.b_tuple bt_tuple (pa_cons (pv 4) pa_nil)) pa_nil)) (pa_cons (pv 7) (pa_cons (pv 8) (pa_cons (pv 9) pa_nil))))))))))))))))), ?_⟩
    have c0 : ∀ {H' : Hp} {e : Nat} {x : Addr}, codeOf vals = .error e → Same H H' → H x = none → Out E CD x H' e := fun {H' e x} h s n d H'' m g => qe e d H'' h (Same.mv s m n) g
    refine w_seq (w_asg (w_mk (w_cons (w_var rfl (w_nil fun x dx nx nd ne => ?_)))))
    have sk := mk_same (o1 := .own x) (o2 := .ins C dx []) nx nd
    generalize hE0 : upd (upd H dx (.own x)) x (.ins C dx []) = H0 at sk
    have x0 : H0 x = some (.ins C dx []) := by rw [← hE0]; exact upd_same
    refine ⟨x, dx, a, rfl, x0, ne, fun H1 m1 R1 => ⟨rfl, ?_⟩⟩
    have s1 : Same H H1 := fun b u e => m1 b u (ne_of_none e nx) (ne_of_none e nd) (sk b u e)
    have v1 : Vs H1 a vals := ⟨s1 _ _ hv.g, hv.ok, hv.ln⟩
    have vsOf : ∀ {H' : Hp}, Same H H' → Vs H' a vals := fun s => ⟨s _ _ hv.g, hv.ok, hv.ln⟩
    clear hE0 sk x0 m1
    refine w_gname (w_seq (w_drop (w_ms rfl R1 (w_cons (w_c (w_cons (w_c (w_nil ?_))))))))
    refine ⟨79, 79, x, dx, a, vals, 0, rfl, R1, v1, fun k1 o1 v H2 h1 m2 R2 ev => ?_, fun e h => c0 (code_err (by unfold pMap; rw [bind_err h])) s1 nx⟩
    clear ev
    have s2 := Same.mv s1 m2 nx
    refine w_seq (w_par (w_cons (w_ms rfl R2 (w_cons (w_c (w_cons (w_c (w_nil ?_))))))))
    refine ⟨1, 12, x, dx, a, vals, o1, rfl, R2, vsOf s2, fun hh o2 v H3 h2 m3 R3 ev => ?_, fun e h => c0 (code_err (by unfold pMap; rw [bind_ok h1, bind_err h])) s2 nx⟩
    have b2 := post_take _ _ _ h2
    subst ev
    have s3 := Same.mv s2 m3 nx
    refine w_cons (w_ms rfl R3 (w_cons (w_c (w_cons (w_c (w_nil ?_))))))
    refine ⟨1, 12, x, dx, a, vals, o2, rfl, R3, vsOf s3, fun ww o3 v H4 h3 m4 R4 ev => ?_, fun e h => c0 (code_err (by unfold pMap; rw [bind_ok h1, bind_ok h2, bind_err h])) s3 nx⟩
    have b3 := post_take _ _ _ h3
    subst ev
    have s4 := Same.mv s3 m4 nx
    obtain ⟨hg, rfl⟩ : ∃ n : Nat, hh = n := ⟨hh.toNat, by omega⟩
    obtain ⟨wd, rfl⟩ : ∃ n : Nat, ww = n := ⟨ww.toNat, by omega⟩
    refine w_nil ⟨_, _, rfl, ?_⟩
    refine w_seq (w_asg (w_lst (w_nil ⟨small (by simp), fun rp n5 => ?_⟩)))
    generalize hE5 : upd H4 rp _ = H5; obtain ⟨k5, g5⟩ := updN n5 hE5
    have s5 : Same H H5 := fun b u e => k5 _ _ (s4 _ _ e)
    have R5 := R4.same k5
    have nrp := none_back s4 n5
    have rpx : rp ≠ x := R5.ne g5 fun _ z => nomatch z
    have rpd : rp ≠ dx := fun e => by rw [e, R5.gd] at g5; cases g5
    clear s1 s2 s3 m2 m3 m4 k5 R1 R2 R3 R4 v1 hE5
    refine w_gname (w_seq (w_for (w_iRng1 (w_cons (w_var rfl (w_nil ⟨_, rfl, ?_⟩))))))
    refine lp_rng1 (n := hg) rfl (by omega) (fun j σ H' => ∃ (rows : List (List Nat)) (v5 : Option V) (o' : Nat), σ = [some (.ref a), some (.ref x), some (.int hg), some (.int wd), some (.ref rp), v5, none, none, none, none, none, none] ∧ rows.length = j ∧ Pr.rep (Pr.rep (pSign vals) wd) j o3 = .ok (rows, o') ∧
        Same H H' ∧ Rd H' x C dx a o' ∧ H' rp = some (.lst (rows.map fun r => V.str (tx r)))) ⟨[], none, o3, rfl, rfl, rfl, s5, R5, g5⟩ ?_ ?_
    · rintro j σ H6 jh ⟨rows, v5, o', rfl, lr, hp, s6, R6, g6⟩
      refine w_gname (w_drop (w_bm (w_var rfl ⟨.inl ⟨rfl, _, SqL.of g6⟩, w_cons ?_⟩)))
      refine w_joinM (n := wd) (x := x) rfl (by omega) R6 (vsOf s6) (fun _ => rfl) (fun _ => rfl) (fun l o2' H7 hl m7 R7 => ?_) fun e h => c0 (code_err ?_) s6 nx
      · have g7 := R6.lst m7 g6
        refine w_nil (w_app g7 (smallL (by rw [List.length_map]; omega)) ?_)
        have s7 := Same.mv s6 m7 nx
        refine ⟨rows ++ [l], _, o2', rfl, by rw [List.length_append, lr]; rfl, rep_ok hp hl, Same.updD s7 nrp, ⟨by rw [upd_ne (Ne.symm rpx)]; exact R7.gx, by rw [upd_ne (Ne.symm rpd)]; exact R7.gd⟩, ?_⟩
        rw [upd_same, List.map_append]
        rfl
      · unfold pMap
        rw [bind_ok h1, bind_ok h2, bind_ok h3]
        refine bind_err ?_
        rw [Int.toNat_natCast, Int.toNat_natCast]
        exact rep_err hp h jh
    · rintro σ H6 ⟨rows, v5, o4, rfl, lr, h4, s6, R6, g6⟩
      have rows4 : pMap vals 0 = Pr.bind (pSigns vals) (fun z => Pr.bind (pTurns vals) fun fs => Pr.bind (pTake vals 0 20) fun n => Pr.bind (Pr.rep (pIns vals) n.toNat) fun is => Pr.pure ⟨rows, z, fs, is⟩) o4 := by
        unfold pMap
        rw [bind_ok h1, bind_ok h2, bind_ok h3, Int.toNat_natCast, Int.toNat_natCast, bind_ok h4]
      clear s4 s5 R5 g5 h1 h2 h3 h4
      refine w_seq (w_par (w_cons (w_ms rfl R6 (w_nil ?_))))
      refine ⟨x, dx, a, vals, o4, rfl, R6, vsOf s6, fun z o5 v H7 h5 m7 R7 ev => ?_, fun e h => c0 (code_err (by rw [rows4, bind_err h])) s6 nx⟩
      have z5 := post_signs _ _ _ h5
      subst ev
      have s7 := Same.mv s6 m7 nx
      have g7 := R6.lst m7 g6
      refine w_cons (w_ms rfl R7 (w_nil ?_))
      refine ⟨x, dx, a, vals, o5, rfl, R7, vsOf s7, fun fs o6 v H8 h6 m8 R8 ev => ?_, fun e h => c0 (code_err (by rw [rows4, bind_ok h5, bind_err h])) s7 nx⟩
      obtain ⟨fa, rfl, gf⟩ := ev
      have s8 := Same.mv s7 m8 nx
      have g8 := R7.lst m8 g7
      refine w_nil ⟨_, _, rfl, ?_⟩
      clear s6 s7 g6 g7 m7 m8 R6 R7
      refine w_seq (w_asg (w_lc (w_iRng1 (w_cons (w_ms rfl R8 (w_cons (w_c (w_cons (w_c (w_nil ?_)))))))))) 
      refine ⟨0, 20, x, dx, a, vals, o6, rfl, R8, vsOf s8, fun nn o7 v H9 h7 m9 R9 ev => ?_, fun e h => c0 (code_err (by rw [rows4, bind_ok h5, bind_ok h6, bind_err h])) s8 nx⟩
      have b7 := post_take _ _ _ h7
      subst ev
      obtain ⟨ni, rfl⟩ : ∃ n : Nat, nn = n := ⟨nn.toNat, by omega⟩
      have s9 := Same.mv s8 m9 nx
      have g9 := R8.lst m9 g8
      have gf9 := R8.tup m9 gf
      refine w_nil ⟨_, rfl, by omega, by omega, ?_⟩
      rw [Int.toNat_natCast]
      refine lc_par (E := E) (CD := CD) (p := pIns vals) (Val := InAtV K) (W := fun H l acc => ∃ DD : DL, acc = drefs DD ∧ DD.map (·.2) = l ∧ ∀ p ∈ DD, InsAt K H p.1 p.2) R9 (vsOf s9) (by omega) (fun _ => ⟨[], rfl, rfl, fun p hp => nomatch hp⟩)
        (fun R m ⟨DD, e1, e2, e3⟩ => ⟨DD, e1, e2, fun p hp => (e3 p hp).tup fun _ _ => R.tup m⟩) (fun h ⟨DD, e1, e2, e3⟩ => ⟨DD, e1, e2, fun p hp => (e3 p hp).tup fun _ _ => SqT.updL h⟩) ?_ (fun _ => rfl) ?_ (fun is o8 acc D H' h8 m10 R10 w la g10 nD => ?_) (fun e h => c0 (code_err (by rw [rows4, bind_ok h5, bind_ok h6, bind_ok h7, Int.toNat_natCast, bind_err h])) s9 nx)
      · rintro H' l acc y v ⟨DD, e1, e2, e3⟩ ⟨t, rfl, ht⟩
        refine ⟨DD ++ [(t, y)], by rw [e1, drefs, drefs, List.map_append]; rfl, by rw [List.map_append, e2]; rfl, fun p hp => ?_⟩
        rcases List.mem_append.mp hp with z | z
        · exact e3 p z
        · rw [List.mem_singleton.mp z]
          exact ht
      · intro j o H' K' hj R v ok er
        exact w_ms rfl R (w_nil ⟨x, dx, a, vals, o, rfl, R, v, ok, er⟩)
      obtain ⟨DD, rfl, e2, e3⟩ := w
      have s10 := Same.mv s9 m10 nx
      have g11 := R9.lst m10 g9
      have gf10 := R9.tup m10 gf9
      have full : pMap vals 0 = .ok (⟨rows, z, fs, is⟩, o8) := by
        rw [rows4, bind_ok h5, bind_ok h6, bind_ok h7, Int.toNat_natCast, bind_ok h8]
        rfl
      clear rows4 h5 h6 h7 h8 s8 s9 g8 g9 m9 m10 gf gf9 R8 R9
      obtain ⟨ns, en⟩ := adv_map _ _ _ full ⟨[], rfl⟩
      have hg10 := (vsOf s10).g
      refine w_gname (w_seq (w_asg (w_call (w_cons (w_sl (w_var rfl (w_noPart (w_part (w_off RC rfl R10 ⟨_, rfl, ?_⟩)))))))))
      refine w_slL (SqL.of hg10) fun p11 H11 n11 k11 c11 => ?_
      rw [cut_take, en] at c11
      refine w_nil ⟨p11, ns, rfl, SqL.of c11, ?_⟩
      have es : sumOf 3 ns = sumOf 3 (intsOf (vals.take o8)) := by rw [en, intsOf_ints]
      generalize hdue : sumOf 3 ns = due at es
      have s11 : Same H H11 := fun b u e => k11 _ _ (s10 _ _ e)
      have R11 := R10.same k11
      refine w_gname (w_seq (w_drop (w_ms rfl R11 (w_cons (w_var rfl (w_cons (w_var rfl (w_nil ?_))))))))
      refine ⟨due, due, x, dx, a, vals, o8, rfl, R11, vsOf s11, fun k o9 v H12 h9 m12 R12 ev => ?_, fun e h => c0 (by unfold codeOf; rw [full]; dsimp only; rw [← es, show pTake vals due due o8 = _ from h]) s11 nx⟩
      have s12 := Same.mv s11 m12 nx
      have ecode : codeOf vals = if o9 < vals.length then .error o9 else .ok ⟨rows, z, fs, is⟩ := by
        unfold codeOf
        rw [full]
        dsimp only
        rw [← es, show pTake vals due due o8 = _ from h9]
      have gD12 := R11.lst m12 (k11 _ _ g10)
      have gr12 := R11.lst m12 (k11 _ _ g11)
      have gf12 := R11.tup m12 (Same.seqT k11 gf10)
      have e12 : ∀ p ∈ DD, InsAt K H12 p.1 p.2 := fun p hp => ((e3 p hp).tup fun _ _ => Same.seqT k11).tup fun _ _ => R11.tup m12
      clear e3 g10 g11 gf10 k11 m12
      have gv12 : SqL K H12 a vals := SqL.of (vsOf s12).g
      refine w_seq (w_ifS (w_test (w_op (w_off RC rfl R12 (w_cb (w_cons (w_var rfl (w_nil (w_lenL gv12 (w_I0 ⟨_, rfl, ?_⟩)))))))))) 
      refine ited (fun hl => ?_) (fun hl => ?_)
      · refine w_raiseK (w_cons (w_off RC rfl R12 (w_nil ⟨_, rfl, fun d nd => ?_⟩)))
        exact qe o9 d _ (by rw [ecode, if_pos (by omega)]) (Same.updD s12 (none_back s12 nd)) upd_same
      · rw [if_neg (by omega)] at ecode
        have ok := codeOf_ok ecode
        obtain ⟨iF, ei⟩ := exists_ins ok.is
        obtain ⟨qi, qm⟩ := qo _ iF ecode ei
        refine w_next ?_
        dsimp only
        refine w_ret ?_
        refine w_mk (w_cons ?_)
        refine w_mk (w_cons ?_)
        refine w_cb (w_cons (w_var rfl (w_nil ⟨rp, _, rfl, .inl ⟨SqL.of gr12, fun pr npr => ?_⟩⟩)))
        generalize hE13 : upd H12 pr _ = H13; obtain ⟨k13, g13⟩ := updN npr hE13
        refine w_nil fun xi di nxi ndi nei => ?_
        have k14 := mk_same (o1 := .own xi) (o2 := .ins CI di []) nxi ndi
        generalize hE14 : upd (upd H13 di (.own xi)) xi (.ins CI di []) = H14 at k14
        have x14 : H14 xi = some (.ins CI di []) := by rw [← hE14]; exact upd_same
        refine ⟨xi, di, pr, rows, rfl, x14, SqT.of (k14 _ _ g13), ⟨ok.h1, ok.h12, ok.w, ok.ch⟩, fun H15 m15 g15 => ⟨rfl, ?_⟩⟩
        have k15 := Same.mv k14 m15 nxi
        refine w_cons (w_var rfl (w_cons (w_var rfl (w_cons (w_var rfl (w_nil fun xm dm nxm ndm nem => ?_))))))
        have k16 := mk_same (o1 := .own xm) (o2 := .ins CM dm []) nxm ndm
        generalize hE16 : upd (upd H15 dm (.own xm)) xm (.ins CM dm []) = H16 at k16
        have x16 : H16 xm = some (.ins CM dm []) := by rw [← hE16]; exact upd_same
        have s16 : Same H12 H16 := fun b u e => k16 _ _ (k15 _ _ (k13 _ _ e))
        have sH : Same H H16 := fun b u e => s16 _ _ (s12 _ _ e)
        have nH : H xm = none := none_back (fun b u e => k15 _ _ (k13 _ _ (s12 _ _ e))) nxm
        have ne : xi ≠ xm := fun e => by rw [e, nxm] at g15; cases g15
        refine ⟨xm, dm, xi, fa, D, ⟨rows, z, fs, is⟩, iF, DD, rfl, x16, Same.seqT s16 gf12, SqL.of (s16 _ _ gD12), e2, fun p hp => (e12 p hp).tup fun _ _ => Same.seqT s16, ok, ei, fun k d H17 ef m g => qi k d H17 ef (Same.mv sH m nH) g, fun t H17 ef m gx gt => ⟨rfl, ?_⟩⟩
        have up : ∀ (b : Addr) (xs : List V), SqT K H12 b xs → SqT K H17 b xs := fun b xs q => ins_tup x16 m (Same.seqT s16 q)
        exact qm xm H17 ef (Same.mv sH m nH) ⟨dm, xi, di, pr, fa, t, DD, gx, m _ _ ne (k16 _ _ g15), ins_tup x16 m (Same.seqT k16 (Same.seqT k15 (SqT.of g13))), up _ _ gf12, gt, e2, fun p hp => (e12 p hp).tup up⟩
end
end
section
/-! ### _law_seen: what decode_map tells -/
theorem pe_cS {X : Cx} {CX : CXT} {k : Nat} {x : Str} {sp : Sp} {E : St → XK} {p pos : Pos} {e : Expr} {es : List Expr} {t : TA} (D : DefOk X.prog X.w X.K X.mg X.base CX k x sp) (hr : Room k X.A) (hx : ∀ σ, PassesAt CX X σ (E σ)) (ha : PA X (e :: es) t) (hg : Gl X x := by rfl)
    (hdb : (x == ("__debug__" : Str)) = false := by decide) (he : starEach (e :: es) X.env = (false, eval e X.env) :: starEach es X.env := by rfl) (hpl : (backTo pos (starEach es X.env)).any (·.1) = false := by rfl) :
    PE X (.Call (.Name x p) (e :: es) [] pos) (tCallSD sp [] E t) := by
  obtain ⟨f, fd, ps, F, hm, hk, hb⟩ := D.ex
  exact pe_callSD F hr hg hm hk hb .nil hx ha hdb he hpl
/-- what isinstance asks of an exception's class -/
structure ExK (K : PySem.W.Frag) (D : Addr) : Prop where
  cl : (PySem.W.clsIn K D).isSome = true
  ga : PySem.W.findIn K (.ref D) "__getattribute__" = some (some (.builtin "BaseException.__getattribute__"))
  gt : PySem.W.findIn K (.ref D) "__getattr__" = some none
  sb : PySem.W.subIn K (.ref D) (.type "BaseException") = some true
  ca : PySem.W.findIn K (.ref D) "__class__" = some (some (.builtin "object.__class__"))
  sp : PySem.W.specialIn K (.builtin "object.__class__") "__get__" = some (some (.builtin "getset_descriptor.__get__"))
  tk : PySem.W.takesIn K (.builtin "object.__class__") = some true
  mo : PySem.W.mroIn K D (.type "object") = some true
  hd : PySem.W.hasDictIn K D = true
/-- isinstance(e, C), e the exception at hand, with a dict of its own -/
def rIsX (K : PySem.W.Frag) (a : Addr) (cls : Value) (d : Option Addr) : List V → Hp → VK → Prop := fun xs H Q => ∃ (D c dd : Addr) (fs : List (Str × V)) (b : Bool), cls = .ref D ∧ d = some dd ∧ H dd = some (.xd fs) ∧ ExK K D ∧ xs = [.ref a, .ref c] ∧ PySem.W.kitOne K (.ref D) (.ref c) = some b ∧ Q (.bl b) H
theorem call_isX {X : Cx} {a : Addr} {oe : Obj} {cls : Value} {d : Option Addr} {pn : List (Addr × Obj)} (hz : Zc cls d oe) (hf : ∃ vs, oe.data = .fields vs) : CallR (X.suite a ((a, oe) :: pn)) (.builtin "isinstance") (rIsX X.K a cls d) := by
  intro pins s σ H xs us Q I r h
  obtain ⟨D, c, dd, fs, b, rfl, rfl, hx, C, rfl, e, q⟩ := h
  rcases r with _ | ⟨r1, r2⟩
  rcases r2 with _ | ⟨r2, r3⟩
  cases r3
  cases r1
  cases r2
  obtain ⟨ha, _⟩ := I.pin (a, oe) (List.mem_append_left _ List.mem_cons_self)
  obtain ⟨mA, hns, _⟩ := (show ObjOk X.prog X.w H s.heap dd (.xd fs) from I.hok dd _ hx)
  obtain ⟨od, ho, _⟩ := lookIn_ns hns
  obtain ⟨vs, hv⟩ := hf
  have J : PySem.W.InstAt s.heap a oe D (some od) := ⟨ha, hz.1, by unfold PySem.W.notCls; rw [hv] <;> rfl, by rw [hz.2]; exact ho⟩
  exact PySem.W.kia_one (PySem.W.kitx_exc C.cl C.ga C.gt C.sb C.ca C.sp C.tk C.mo) I.kIn J e (fun z => nomatch z) fun tk => ⟨.bl b, H, I.kept (t' := tk) fun _ _ z => z, rfl, q⟩
/-- what the law's own view needs of the classes -/
structure SeenC (K : PySem.W.Frag) (mg : Str → Option Value) (CM CI CD CV CE : Addr) : Prop where
  gE : mg "MapError" = some (.ref CE)
  gD : mg "DecodeError" = some (.ref CD)
  gV : mg "InvalidMap" = some (.ref CV)
  xD : PySem.W.exmOne K (.ref CD) (.ref CE) = some true
  xV : PySem.W.exmOne K (.ref CV) (.ref CE) = some true
  kD : ExK K CD
  kV : ExK K CV
  nD : PySem.W.findIn K (.ref CD) "offset" = some none
  nV : PySem.W.findIn K (.ref CV) "index" = some none
  iDD : PySem.W.kitOne K (.ref CD) (.ref CD) = some true
  iVD : PySem.W.kitOne K (.ref CV) (.ref CD) = some false
  iVV : PySem.W.kitOne K (.ref CV) (.ref CV) = some true
  mC : PySem.W.findIn K (.ref CM) "__class__" = some (some (.builtin "object.__class__"))
  mO : PySem.W.mroIn K CM (.type "object") = some true
  iMM : PySem.W.kitOne K (.ref CM) (.ref CM) = some true
theorem ExK.xf {K : PySem.W.Frag} {D : Addr} (k : ExK K D) : XfC K D := ⟨k.ga, k.gt, k.sb, k.hd⟩
section
variable {P : Program} {w : World} {K : PySem.W.Frag} {mg : Str → Option Value} {base : Heap}
theorem w_cSD {sp : Sp} {E : St → XK} {t : TA} {σ : St} {H : Hp} {Q : VK} (q : t σ H fun vs H1 => sp (vs ++ []) H1 Q (E σ)) : tCallSD sp [] E t σ H Q := q
theorem w_xf {a C : Addr} {cls : Value} {d : Option Addr} {f : Str} {te : TE} {σ : St} {H : Hp} {Q : VK} (q : te σ H fun x H1 => x = .ref a ∧ cls = .ref C ∧ ∃ (dd : Addr) (fs : List (Str × V)) (v : V), d = some dd ∧ H1 dd = some (.xd fs) ∧ fs.lookup f = some v ∧ Q v H1) : tXf a cls d C f te σ H Q := q
theorem w_pr {C : Addr} {f : Str} {ta : TE} {σ : St} {H : Hp} {Q : VK} (q : ta σ H fun x H1 => ∃ a dx fs, x = .ref a ∧ H1 a = some (.ins C dx fs) ∧ getSp C f (.ref a :: []) H1 Q E0) : tProp C (getSp C f) [] E0 ta σ H Q := q
def spSeen (K : PySem.W.Frag) : Sp := fun vs H Q _ => ∃ (a : Addr) (vals : List V), vs = [.ref a] ∧ Vs H a vals ∧
  (∀ e p H', codeOf vals = .error e → Same H H' → Dp K H' (.ref p) (.tuple [.str "DecodeError", .int (e : Nat)]) → Q (.ref p) H') ∧ ∀ m is p H', codeOf vals = .ok m → m.is = is.map InF.ins → Same H H' → Dp K H' (.ref p) (dueD m is) → Q (.ref p) H'
abbrev s__law_seen : Stmt := top 73
theorem sc__law_seen : FnScope ["_law_values", "_law_found", "e"] ["_law_values"] (defScope s__law_seen) := ⟨rfl, rfl, rfl, by decide +kernel, rfl, by decide +kernel, by decide +kernel⟩
theorem ok_seen {CM CI CD CV CE : Addr} (D : DefAt K mg "_law_seen" s__law_seen ["_law_values"]) (T : PTxt K mg) (S : SeenC K mg CM CI CD CV CE) (IC : IslC K mg CI) (MC : MapC K mg CM) (D_decode : DefOk P w K mg base (L2.CX P w) 6 "decode_map" (spDecode K CM CI CD CV))
    (Di : PropOk P w K mg base 1 CM "island" "own_island") (Ds : PropOk P w K mg base 1 CM "signs" "own_signs") (Df : PropOk P w K mg base 1 CM "facings" "own_facings") (Dn : PropOk P w K mg base 1 CM "instructions" "own_instructions") (Dr : PropOk P w K mg base 1 CI "rows" "own_rows") :
    DefOk P w K mg base CX0 7 "_law_seen" (spSeen K) := by
  refine D.ok sc__law_seen (fun vs H Q E h => ?_) (fun f cdv A outer s0 H vs Q E hr h => ?_)
  · obtain ⟨a, vals, rfl, _⟩ := h
    rfl
  · obtain ⟨a, vals, rfl, hv, qe, qo⟩ := h
    have hr2 : Room 2 (A.deeper (envOfC "_law_seen" (defScope s__law_seen) s0.heap.objs.size f cdv)) := hr.mono (by decide)
    refine ⟨_, (pss_one (ps_try_as (i := 2) rfl rfl sc__law_seen.nd rfl rfl ⟨rfl, by decide, .inl S.gE⟩ takes0
      (fun W pn xe tk _ => (pss_cons (ps_set (i := 1) sc__law_seen.nd rfl (.inl rfl) (pe_cS D_decode hr (fun σ => passAt tk σ) (pa_cons (pv 0) pa_nil)))
        (pss_cons (ps_if (pt_not (pt_val (pe_callB (show CallR _ _ (rIsi K) from call_isi) rfl T.b_isinstance bt_isinstance (pa_cons (pv 1) (pa_cons (pe_k (v := .ref CM) ⟨_, MC.g, rfl⟩) pa_nil))))) (pss_one (ps_ret pe_non)) pss_nil)
          (pss_one (ps_ret (pe_tup (pa_cons pe_str (pa_cons (pe_pr (pe_pr (pv 1) MC.c Di hr2) IC.c Dr hr2) (pa_cons (pe_pr (pv 1) MC.c Ds hr2) (pa_cons (pe_pr (pv 1) MC.c Df hr2) (pa_cons (pe_pr (pv 1) MC.c Dn hr2) pa_nil)))))))))))
      (fun a oe cls d pn hz hf => (pss_cons (ps_if (pt_val (pe_callB (call_isX hz hf) rfl T.b_isinstance bt_isinstance (pa_cons (pv 2) (pa_cons (pe_k (v := .ref CD) ⟨_, S.gD, rfl⟩) pa_nil)))) (pss_one (ps_ret (pe_tup (pa_cons pe_str (pa_cons (pe_xf S.kD.xf S.nD hz hf (pv 2)) pa_nil))))) pss_nil)
          (pss_one (ps_ret (pe_ifExp (pt_val (pe_callB (call_isX hz hf) rfl T.b_isinstance bt_isinstance (pa_cons (pv 2) (pa_cons (pe_k (v := .ref CV) ⟨_, S.gV, rfl⟩) pa_nil)))) (pe_tup (pa_cons pe_str (pa_cons (pe_xf S.kV.xf S.nV hz hf (pv 2)) pa_nil))) pe_str))))))), ?_⟩
    refine w_seq ?_
    refine w_asg ?_
    refine w_cSD (w_cons (w_var rfl (w_nil ⟨a, vals, rfl, hv, fun e d H1 hc s1 g1 => ⟨true, S.xD, fun _ ex hex => ?_, fun q => nomatch q⟩, fun m is hc ei => ⟨fun k d H1 ef s1 g1 => ⟨true, S.xV, fun _ ex hex => ?_, fun q => nomatch q⟩, fun p H1 ef s1 hp => ?_⟩⟩)))
    · refine w_seq (w_ifS (w_tB (w_cb (w_cons (w_var rfl (w_cons (w_c (w_nil ⟨CD, CD, d, _, true, rfl, rfl, g1, S.kD, rfl, S.iDD, _, rfl, ifT rfl ?_⟩)))))))) 
      refine w_ret (w_tup (w_cons (w_c (w_cons (w_xf (w_var rfl ⟨rfl, rfl, d, _, .int (e : Nat), rfl, g1, rfl, w_nil ⟨small (by simp), fun p n => ?_⟩⟩))))))
      generalize hE : upd H1 p _ = H2; obtain ⟨k2, g2⟩ := updN n hE
      exact qe e p H2 hc (fun b u z => k2 _ _ (s1 _ _ z)) (.tup (SqT.of g2) (.cons (.str _) (.cons (.int _) .nil)))
    · refine w_seq (w_ifS (w_tB (w_cb (w_cons (w_var rfl (w_cons (w_c (w_nil ⟨CV, CD, d, _, false, rfl, rfl, g1, S.kV, rfl, S.iVD, _, rfl, ifF rfl ?_⟩)))))))) 
      refine w_next (w_ret (w_if (w_tB (w_cb (w_cons (w_var rfl (w_cons (w_c (w_nil ⟨CV, CV, d, _, true, rfl, rfl, g1, S.kV, rfl, S.iVV, _, rfl, ifT rfl ?_⟩)))))))))
      refine w_tup (w_cons (w_c (w_cons (w_xf (w_var rfl ⟨rfl, rfl, d, _, .int k, rfl, g1, rfl, w_nil ⟨small (by simp), fun p n => ?_⟩⟩)))))
      generalize hE : upd H1 p _ = H2; obtain ⟨k2, g2⟩ := updN n hE
      refine qo m is p H2 hc ei (fun b u z => k2 _ _ (s1 _ _ z)) ?_
      have ed : dueD m is = .tuple [.str "InvalidMap", .int k] := by unfold dueD; rw [ef]
      rw [ed]
      exact .tup (SqT.of g2) (.cons (.str _) (.cons (.int _) .nil))
    · obtain ⟨dx, isl, dy, ra, fa, t, DD, gp, gi, gr, gf, gt, e2, e3⟩ := hp
      refine w_gname (w_seq (w_ifS (w_not (w_tB (w_cb (w_cons (w_var rfl (w_cons (w_c (w_nil ⟨.ref p, .ref CM, .ref CM, .ref CM, true, rfl, .own CM, .base (.ins gp MC.c S.mC S.kD.sp S.kD.tk S.mO), S.iMM, _, rfl, ifF rfl ?_⟩))))))))))
      have pr : ∀ {f : Str} {v : V} {σ : St} {Q' : VK}, List.lookup f [(("own_island" : Str), V.ref isl), ("own_signs", .str (tx m.z)), ("own_facings", .ref fa), ("own_instructions", .ref t)] = some v → σ[1]? = some (some (.ref p)) → Q' v H1 → tProp CM (getSp CM f) [] E0 (tVar 1) σ H1 Q' := fun {f v σ Q'} l e q =>
        ⟨_, e, p, dx, _, rfl, gp, p, dx, _, v, rfl, gp, l, q⟩
      refine w_next ?_
      dsimp only
      refine w_ret ?_
      refine w_tup (w_cons (w_c (w_cons ?_)))
      refine w_pr (pr (v := .ref isl) rfl rfl ⟨isl, dy, _, rfl, gi, isl, dy, _, .ref ra, rfl, gi, rfl, ?_⟩)
      refine w_cons (pr (v := .str (tx m.z)) rfl rfl (w_cons (pr (v := .ref fa) rfl rfl (w_cons (pr (v := .ref t) rfl rfl (w_nil ⟨small (by simp), fun p2 n2 => ?_⟩))))))
      generalize hE : upd H1 p2 _ = H2; obtain ⟨k2, g2⟩ := updN n2 hE
      refine qo m is p2 H2 hc ei (fun b u z => k2 _ _ (s1 _ _ z)) ?_
      have ed : dueD m is = chartD m := by unfold dueD; rw [ef]
      rw [ed]
      refine .tup (SqT.of g2) (.cons (.str _) (.cons (.tup (Same.seqT k2 gr) (dp_map fun r _ => .str _)) (.cons (.str _) (.cons (.tup (Same.seqT k2 gf) (dp_map fun x _ => .int x)) (.cons (.tup (Same.seqT k2 gt) ?_) .nil)))))
      rw [← e2]
      exact DL.dp fun q hq => (e3 q hq).tup fun _ _ => Same.seqT k2
end
end
section
/-! ### the law -/
def rAddX : R2 := fun x y H Q => ∃ j, y = .int j ∧ ((∃ i, x = .int i ∧ Q (.int (i + j)) H) ∨ ∃ b, x = .bl b ∧ Q (.int ((if b = true then (1 : Int) else 0) + j)) H)
theorem op_addX {X : Cx} : OpR X (binaryOp .Add) rAddX := by
  intro pins s σ H x y v u Q I rx ry h
  obtain ⟨j, rfl, h⟩ := h
  obtain ⟨t, rfl⟩ := ry
  rcases h with ⟨i, rfl, q⟩ | ⟨b, rfl, q⟩
  · obtain ⟨t', rfl⟩ := rx
    exact PyProof.Rows.add_int ⟨.int (i + j), H, I.tok _, ⟨_, rfl⟩, q⟩
  · cases rx
    exact PySem.IntBool.add_bool_int ⟨.int ((if b = true then (1 : Int) else 0) + j), H, I.tok _, ⟨_, rfl⟩, q⟩
/-- what a code's items are here -/
def okV : V → Bool
  | .non => true
  | .bl _ => true
  | .int _ => true
  | .str x => decide (x = "a")
  | _ => false
theorem okV.item {v : V} (h : okV v = true) : itemV v = true := by
  cases v <;> first | rfl | cases h
structure Fd (H : Hp) (h hc p : Addr) (vals : List V) (n : Nat) : Prop where
  g : H p = some (.lst vals)
  ok : ∀ v ∈ vals, okV v = true
  l1 : 1 ≤ vals.length
  ln : vals.length ≤ n
  nh : p ≠ h
  nc : p ≠ hc
theorem Fd.mv {H H' : Hp} {h hc p : Addr} {vals : List V} {n : Nat} (F : Fd H h hc p vals n) (m : MvH h hc H H') : Fd H' h hc p vals n := ⟨m _ _ F.nh F.nc F.g, F.ok, F.l1, F.ln, F.nh, F.nc⟩
theorem Fd.same {H H' : Hp} {h hc p : Addr} {vals : List V} {n : Nat} (F : Fd H h hc p vals n) (m : Same H H') : Fd H' h hc p vals n := F.mv (MvH.of m)
/-- changed in place -/
theorem Fd.put {H : Hp} {h hc p : Addr} {vals ws : List V} {n m : Nat} (F : Fd H h hc p vals n) (ok : ∀ v ∈ ws, okV v = true) (l1 : 1 ≤ ws.length) (ln : ws.length ≤ m) : Fd (upd H p (.lst ws)) h hc p ws m := ⟨upd_same, ok, l1, ln, F.nh, F.nc⟩
theorem Fd.new {H H' : Hp} {h hc p : Addr} {vals : List V} {n : Nat} (k : Hst H h hc) (np : H p = none) (g : H' p = some (.lst vals)) (ok : ∀ v ∈ vals, okV v = true) (l1 : 1 ≤ vals.length) (ln : vals.length ≤ n) : Fd H' h hc p vals n := ⟨g, ok, l1, ln, (k.ne np).1, (k.ne np).2⟩
section
variable {P : Program} {w : World} {K : PySem.W.Frag} {mg : Str → Option Value} {base : Heap}
theorem w_addX {σ : St} {H : Hp} {Q : VK} {i : Nat} {old : V} {j : Int} (e : σ[i]? = some (some old)) (ho : isInt old = true) (q : ∀ z, Q (.int z) H) : tOp rAddX (tVar i) (tC (.int j)) σ H Q := by
  refine w_op (w_var e (w_c ⟨j, rfl, ?_⟩))
  cases old with
  | int k => exact .inl ⟨k, rfl, q _⟩
  | bl b => exact .inr ⟨b, rfl, q _⟩
  | _ => cases ho
theorem w_old {σ : St} {H : Hp} {Q : VK} {p : Addr} {vals : List V} {k : Nat} {v : V} (e3 : σ[3]? = some (some (.ref p))) (e5 : σ[5]? = some (some (.int k))) (g : SqL K H p vals) (hat : atI vals k = some v) (it : itemV v = true) (q : ∀ old, isInt old = true → Q old H) :
    tIf (tB (tCB (rIsi K) (tCons (tOp (rIxL K) (tVar 3) (tVar 5)) (tCons (tC (V.ty "int")) tNil)))) (tOp (rIxL K) (tVar 3) (tVar 5)) (tC (.int 0)) σ H Q := by
  refine w_if (w_tB (w_cb (w_cons (w_op (w_var e3 (w_var e5 (w_ixL g hat (w_cons (w_c (w_nil (isi_int it ⟨_, rfl, ?_⟩)))))))))))
  cases hv : isInt v with
  | true => exact iteT (w_op (w_var e3 (w_var e5 (w_ixL g hat (q v hv)))))
  | false => exact iteF (w_c (q _ rfl))
theorem w_k3 {σ : St} {H : Hp} {B : Bool → Hp → Prop} {p : Addr} {vals : List V} {kk : Int} (e6 : σ[6]? = some (some (.int kk))) (e3 : σ[3]? = some (some (.ref p))) (g : SqL K H p vals) (q : B (decide (kk = 3 ∧ 1 < vals.length)) H) :
    tAnd (tTest (tOp rEq (tVar 6) (tC (.int 3)))) (tTest (tOp (rI0 fun i j => V.bl (decide (j < i))) (tCB (rLen K) (tCons (tVar 3) tNil)) (tC (.int 1)))) σ H B := by
  refine w_and (w_test (w_op (w_var e6 (w_c (w_eq rfl ⟨_, rfl, ?_⟩)))))
  by_cases c : kk = 3
  · refine ifT (decide_eq_true (by rw [c])) (w_test (w_op (w_cb (w_cons (w_var e3 (w_nil (w_lenL g (w_c (w_I0 ⟨_, rfl, ?_⟩)))))))))
    have e : decide ((1 : Int) < (vals.length : Int)) = decide (kk = 3 ∧ 1 < vals.length) := decide_eq_decide.mpr ⟨fun h => ⟨c, by omega⟩, fun h => by omega⟩
    rw [e]
    exact q
  · refine ifF (decide_eq_false fun z => c (by injection z)) ?_
    rw [decide_eq_false fun z => c z.1] at q
    exact q
/-! #### the data are shaped -/
theorem can_words : ∀ z ∈ ([("chart" : Str), "DecodeError", "InvalidMap", "turn", "walk", "until", "toward", "beside", "near", "shore", "a"]), PyData.canLay0 (.str z) = true := by decide +kernel
theorem sht_w {n : Nat} {z : Str} (h : z ∈ ([("chart" : Str), "DecodeError", "InvalidMap", "turn", "walk", "until", "toward", "beside", "near", "shore", "a"])) : ShT n (.str z) := by cases n <;> exact can_words z h
theorem sht_i {n : Nat} {i : Int} : ShT n (.int i) := by cases n <;> exact True.intro
theorem sht_s {n : Nat} {l : List Nat} (h : SgsOk l) : ShT n (.str (tx l)) := by
  cases n <;> exact can_tx l (by have := h.2.1; omega) fun c hc => abc_le (h.2.2 c hc)
theorem sht_ints {n : Nat} {l : List Int} (h : l.length ≤ 1000) : ShT (n + 1) (.tuple (l.map .int)) := ⟨by rw [List.length_map]; exact h, fun x hx => by obtain ⟨i, _, rfl⟩ := List.mem_map.mp hx; exact sht_i⟩
theorem sht_ins {f : InF} (o : f.Ok) : ShT 2 (.tuple (.str (hdw f.ins.1) :: f.ins.2.map ptD)) := by
  have two : ∀ {a b : PyData}, ShT 1 a → ShT 1 b → ShT 2 (.tuple [a, b]) := fun {a b} ha hb => ⟨by simp, fun x hx => by
    simp only [List.mem_cons, List.not_mem_nil, or_false] at hx
    rcases hx with rfl | rfl
    · exact ha
    · exact hb⟩
  have three : ∀ {a b c : PyData}, ShT 1 a → ShT 1 b → ShT 1 c → ShT 2 (.tuple [a, b, c]) := fun {a b c} ha hb hc => ⟨by simp, fun x hx => by
    simp only [List.mem_cons, List.not_mem_nil, or_false] at hx
    rcases hx with rfl | rfl | rfl
    · exact ha
    · exact hb
    · exact hc⟩
  cases f with
  | turn ts => exact two (sht_w (by simp [hdw, InF.ins])) (sht_ints (by have := o.2.1; omega))
  | walk x y => exact three (sht_w (by simp [hdw, InF.ins])) sht_i sht_i
  | til t l => cases t <;> exact two (sht_w (by simp [hdw, InF.ins])) (sht_s o)
  | beside n l => exact three (sht_w (by simp [hdw, InF.ins])) sht_i (sht_s o.2)
  | near l n => exact three (sht_w (by simp [hdw, InF.ins])) (sht_s o.1) sht_i
  | shore x y z =>
    refine ⟨by simp [InF.ins], fun u hu => ?_⟩
    simp only [InF.ins, List.map, List.mem_cons, List.not_mem_nil, or_false] at hu
    rcases hu with rfl | rfl | rfl | rfl
    · exact sht_w (by simp [hdw])
    · exact sht_i
    · exact sht_i
    · exact sht_i
theorem sht_due {m : MapD} {is : List InF} (ok : MapOk m) : ShT 4 (dueD m is) := by
  unfold dueD
  split
  · refine ⟨by simp, fun x hx => ?_⟩
    simp only [List.mem_cons, List.not_mem_nil, or_false] at hx
    rcases hx with rfl | rfl | rfl | rfl | rfl
    · exact sht_w (by simp)
    · refine ⟨by rw [List.length_map]; have := ok.h12; omega, fun x hx => ?_⟩
      obtain ⟨r, hr, rfl⟩ := List.mem_map.mp hx
      obtain ⟨w, w1, w12, hw⟩ := ok.w
      have e : ∀ n, ShT n (.str (tx r)) := fun n => by
        cases n <;> exact can_tx r (by have := hw r hr; omega) fun c hc => abc_le (ok.ch r hr c hc)
      exact e _
    · exact sht_s ok.z
    · exact sht_ints (by have := ok.fs.2.1; omega)
    · refine ⟨by rw [List.length_map]; have := ok.n20; omega, fun x hx => ?_⟩
      obtain ⟨i, hi, rfl⟩ := List.mem_map.mp hx
      obtain ⟨f, rfl, o⟩ := ok.is i hi
      exact sht_ins o
  · refine ⟨by simp, fun x hx => ?_⟩
    simp only [List.mem_cons, List.not_mem_nil, or_false] at hx
    rcases hx with rfl | rfl
    · exact sht_w (by simp)
    · exact sht_i
theorem sht_err {e : Int} : ShT 4 (.tuple [.str "DecodeError", .int e]) := by
  refine ⟨by simp, fun x hx => ?_⟩
  simp only [List.mem_cons, List.not_mem_nil, or_false] at hx
  rcases hx with rfl | rfl
  · exact sht_w (by simp)
  · exact sht_i
/-! #### which codes are plain -/
def npl (v : V) : Bool := !isInt v || isBl v
def dV : V → PyData
  | .bl b => .bool b | .int i => .int i | .str x => .str x | _ => .none
theorem dV_dp {K : PySem.W.Frag} {H : Hp} {v : V} (h : okV v = true) : Dp K H v (dV v) := by
  cases v <;> first | exact .non | exact .bl _ | exact .int _ | exact .str _ | cases h
theorem dV_sh {v : V} (h : okV v = true) : Shp 0 (dV v) := by
  cases v with
  | str x =>
    have e : x = "a" := of_decide_eq_true h
    subst e
    exact can_words "a" (by simp)
  | non => exact True.intro
  | bl b => exact True.intro
  | int i => exact True.intro
  | _ => cases h
theorem plain_ints : ∀ {vals : List V}, (∀ v ∈ vals, okV v = true) → (vals.filter npl).isEmpty = true → ∃ ns : List Int, vals = ns.map V.int
  | [], _, _ => ⟨[], rfl⟩
  | v :: r, ok, h => by
    have hv := ok v List.mem_cons_self
    rw [List.filter_cons] at h
    cases e : npl v with
    | true => rw [e] at h; cases h
    | false =>
      rw [e, if_neg (by decide)] at h
      obtain ⟨ns, en⟩ := plain_ints (fun u hu => ok u (List.mem_cons_of_mem _ hu)) h
      cases v with
      | int i => exact ⟨i :: ns, by rw [en]; rfl⟩
      | bl b => cases e
      | non => cases e
      | str x => cases e
      | _ => cases hv
theorem dpAll_map {K : PySem.W.Frag} {H : Hp} : ∀ {vs : List V}, (∀ v ∈ vs, okV v = true) → DpAll K H vs (vs.map dV)
  | [], _ => .nil
  | v :: r, h => .cons (dV_dp (h v List.mem_cons_self)) (dpAll_map fun u hu => h u (List.mem_cons_of_mem _ hu))
theorem Fd.vs {H : Hp} {h hc p : Addr} {vals : List V} {n : Nat} (F : Fd H h hc p vals n) (hn : n ≤ 1000) : Vs H p vals := ⟨F.g, fun v hv => okV.item (F.ok v hv), Nat.le_trans F.ln hn⟩
/-- the turn's end: a seven behind it perhaps, then both readings are told apart -/
theorem w_tail {D : Ends} {H : Hp} {h hc p a : Addr} {v2 v4 v5 v6 v7 v8 : Option V} {vals : List V} (hs : Hst H h hc) (F : Fd H h hc p vals 404) (q : ∀ p' H', Hst H' h hc → D.nx [some (.ref a), some (.ref h), v2, some (.ref p'), v4, v5, v6, v7, v8, none] H') :
    tSeq (tAsg (tOp rCat (tVar 3) (tOp rRep (tLst (tCons (tC (V.int 7)) tNil)) (tCB (fun xs H Q => (∃ i, xs = [V.int i] ∧ Q (V.int i) H) ∨ ∃ k, xs = [V.bl k] ∧ Q (V.int (if k = true then 1 else 0)) H)
        (tCons (tOp rEq (tCall spNext [] E0 (tCons (tVar 1) (tCons (tC (.int 9)) tNil))) (tC (.int 0))) tNil)))) (gName 3))
      (tIfS (tNot (tB (tCall (spAl K 4) [] E0 (tCons (tCall (spSeen K) [] E0 (tCons (tVar 3) tNil)) (tCons (tCall (spDue K) [] E0 (tCons (tCall (spDecoded K) [] E0 (tCons (tVar 3) tNil)) tNil)) tNil))))) (tRet (tC (.bl false))) tNext) D
      [some (.ref a), some (.ref h), v2, some (.ref p), v4, v5, v6, v7, v8, none] H := by
  walk_at "gx"
  refine ⟨small (by simp), fun lp nlp => ?_⟩
  generalize hE1 : upd H lp _ = H1; obtain ⟨k1, g1⟩ := updN nlp hE1
  have hs1 := hs.same k1
  have nlh := hs.ne nlp
  walk_at "gx"
  refine ⟨h, hc, 9, rfl, by decide, by decide, hs1, fun r H2 r0 r1 m2 hs2 => ?_⟩
  have F2 := (F.same k1).mv m2
  have g2 := m2 _ _ nlh.1 nlh.2 g1
  refine w_c (w_eq rfl (w_nil (.inr ⟨_, rfl, ?_⟩)))
  obtain ⟨n, en, n1⟩ : ∃ n : Nat, (if decide (V.int r = V.int 0) = true then (1 : Int) else 0) = n ∧ n ≤ 1 := by
    split
    · exact ⟨1, rfl, Nat.le_refl _⟩
    · exact ⟨0, rfl, Nat.zero_le _⟩
  rw [en]
  refine ⟨lp, n, [.int 7], rfl, rfl, g2, by omega, by omega, small (by simp; omega), fun p3 np3 => ?_⟩
  generalize hE3 : upd H2 p3 _ = H3; obtain ⟨k3, g3⟩ := updN np3 hE3
  have F3 := F2.same k3
  have hs3 := hs2.same k3
  rw [Int.toNat_natCast] at g3
  have fl : ∀ {m : Nat}, (List.replicate m [V.int 7]).flatten = List.replicate m (V.int 7) := fun {m} => by
    induction m with
    | zero => rfl
    | succ m ih => rw [List.replicate_succ, List.replicate_succ, List.flatten_cons, ih]; rfl
  rw [fl] at g3
  have l3 := F3.ln
  have l1 := F3.l1
  refine w_cat F3.g g3 (small (by rw [List.length_replicate]; omega)) fun p4 H4 np4 k4 g4 => ?_
  have hs4 := hs3.same k4
  have F4 : Fd H4 h hc p4 (vals ++ List.replicate n (V.int 7)) 405 := Fd.new hs3 np4 g4 (fun v hv => (List.mem_append.mp hv).elim (F3.ok v) fun z => by rw [(List.mem_replicate.mp z).2]; rfl) (by rw [List.length_append]; omega) (by rw [List.length_append, List.length_replicate]; omega)
  generalize vals ++ List.replicate n (V.int 7) = ws at F4
  walk_at "gx"
  refine ⟨p4, ws, rfl, F4.vs (by decide), fun e p5 H5 hc5 s5 dp5 => ?_, fun m is p5 H5 hc5 ei s5 dp5 => ?_⟩
  · have F5 := F4.same s5
    walk_at "gx"
    refine ⟨p4, ws, rfl, F5.vs (by decide), fun e' H6 hc6 s6 => ?_, fun d m' H6 hc6 _ _ => ?_⟩
    · rw [hc5] at hc6
      cases hc6
      refine w_nil (.inl ⟨_, rfl, fun p7 H7 s7 dp7 => ?_⟩)
      refine w_nil ⟨_, _, _, rfl, Dp.same (fun b u z => s7 _ _ (s6 _ _ z)) dp5, dp7, sht_err, fun H8 s8 => ⟨_, rfl, ifF rfl (w_next (q _ _ ?_))⟩⟩
      exact (((hs4.same s5).same s6).same s7).same s8
    · rw [hc5] at hc6
      cases hc6
  · have F5 := F4.same s5
    have ok := codeOf_ok hc5
    walk_at "gx"
    refine ⟨p4, ws, rfl, F5.vs (by decide), fun e' H6 hc6 s6 => ?_, fun d m' H6 hc6 s6 td => ?_⟩
    · rw [hc5] at hc6
      cases hc6
    · rw [hc5] at hc6
      cases hc6
      refine w_nil (.inr ⟨d, m, is, rfl, td, ok, ei, fun p7 H7 s7 dp7 => ?_⟩)
      refine w_nil ⟨_, _, _, rfl, Dp.same (fun b u z => s7 _ _ (s6 _ _ z)) dp5, dp7, sht_due ok, fun H8 s8 => ⟨_, rfl, ifF rfl (w_next (q _ _ ?_))⟩⟩
      exact (((hs4.same s5).same s6).same s7).same s8
def spLaw (K : PySem.W.Frag) : Sp := fun vs H Q _ => ∃ (a : Addr) (ns : List Int), vs = [.ref a] ∧ SqL K H a (ns.map V.int) ∧ ns.length ≤ 63 ∧ ∀ H', Q (.bl true) H'
abbrev s_law : Stmt := top 75
theorem sc_law : FnScope ["_law_script", "_law_h", "_law_turn", "_law_found", "_law_change", "_law_at", "_law_kind", "_law_old", "_law_plain", "_law_one_here"] ["_law_script"] (defScope s_law) := ⟨rfl, rfl, rfl, by decide +kernel, rfl, by decide +kernel, by decide +kernel⟩
theorem ok_law {f : Addr} {fd : FuncData} (D : Fun K "law" "law" s_law f fd) (T : PTxt K mg) (D__law_mix : DefOk P w K mg base CX0 1 "_law_mix" (spMix K)) (D__law_next : DefOk P w K mg base CX0 1 "_law_next" spNext) (D__law_drawn : DefOk P w K mg base CX0 6 "_law_drawn" (spDrawn K)) (D__law_code : DefOk P w K mg base CX0 2 "_law_code" (spCode K))
    (D__law_sum : DefOk P w K mg base CX0 1 "_law_sum" (spSum K)) (D__law_seen : DefOk P w K mg base CX0 7 "_law_seen" (spSeen K)) (D__law_decoded : DefOk P w K mg base CX0 3 "_law_decoded" (spDecoded K)) (D__law_due : DefOk P w K mg base CX0 2 "_law_due" (spDue K)) (D__law_alike : DefOk P w K mg base CX0 6 "_law_alike" (spAl K 4)) :
    FnOk P w K mg base CX0 8 f fd ["_law_script"] (spLaw K) := by
  refine D.ok sc_law (fun vs H Q E h => ?_) (fun cdv A outer s0 H vs Q E hr h => ?_)
  · obtain ⟨a, ns, rfl, _⟩ := h
    rfl
  · obtain ⟨a, ns, rfl, ha, hl, q⟩ := h
    refine ⟨_, (pss_cons (ps_set (i := 1) sc_law.nd rfl (by first | exact Or.inl rfl | exact Or.inr rfl) (pe_c D__law_mix (hr.mono (by decide)) pass0 (pa_cons (pv 0) (pa_cons pe_int pa_nil)))) (pss_cons (ps_for PassesOwn.never rfl (pi_range1 rfl T.b_range (pa_cons pe_int pa_nil)) (pg_name (i := 2) sc_law.nd rfl (by first | exact Or.inl rfl | exact Or.inr rfl)) (pss_cons (ps_set (i := 3) sc_law.nd rfl (by first | exact Or.inl rfl | exact Or.inr rfl) (pe_c D__law_code (hr.mono (by decide)) pass0 (pa_cons (pe_c D__law_drawn (hr.mono (by decide)) pass0 (pa_cons (pv 1) (pa_cons pe_int (pa_cons pe_int pa_nil)))) pa_nil))) (pss_cons (ps_for PassesOwn.never rfl (pi_range1 rfl T.b_range (pa_cons (pe_c D__law_next (hr.mono (by decide)) pass0 (pa_cons (pv 1) (pa_cons pe_int pa_nil))) pa_nil)) (pg_name (i := 4) sc_law.nd rfl (by first | exact Or.inl rfl | exact Or.inr rfl)) (pss_cons (ps_par (i := 5) (j := 6) rfl sc_law.nd rfl rfl (by decide) rfl rfl (pa_cons (pe_c D__law_next (hr.mono (by decide)) pass0 (pa_cons (pv 1) (pa_cons (pe_callB (show CallR _ _ (rLen K) from call_lenK) rfl T.b_len bt_len (pa_cons (pv 3) pa_nil)) pa_nil))) (pa_cons (pe_c D__law_next (hr.mono (by decide)) pass0 (pa_cons (pv 1) (pa_cons pe_int pa_nil))) pa_nil)) (by rfl)) (pss_cons (ps_set (i := 7) sc_law.nd rfl (by first | exact Or.inl rfl | exact Or.inr rfl) (pe_ifExp (pt_val (pe_callB (show CallR _ _ (rIsi K) from call_isi) rfl T.b_isinstance bt_isinstance (pa_cons (pe_ix (show IxR _ (rIxL K) from ix_list) (pv 3) (pv 5) (fun _ _ => rfl)) (pa_cons (pe_bltn (v := .ty "int") (u := .type "int") rfl T.b_int bt_int rfl) pa_nil)))) (pe_ix (show IxR _ (rIxL K) from ix_list) (pv 3) (pv 5) (fun _ _ => rfl)) pe_int)) (pss_one (ps_if (pt_cmpR op_lt (pv 6) pe_int (nomark _)) (pss_one (ps_asg (pe_ix (show IxR _ (rIxL K) from ix_list) (pe_lst (pa_cons (pe_op op_addX (pv 7) pe_int) (pa_cons pe_int (pa_cons pe_int (pa_cons pe_int (pa_cons (pe_c D__law_next (hr.mono (by decide)) pass0 (pa_cons (pv 1) (pa_cons pe_int pa_nil))) (pa_cons pe_int pa_nil))))))) (pe_c D__law_next (hr.mono (by decide)) pass0 (pa_cons (pv 1) (pa_cons pe_int pa_nil))) (fun _ _ => rfl)) (pg_sub (pv 3) (pv 5) set_list))) (pss_one (ps_if (PW.pt (pw_and (pt_cmpR op_eq (pv 6) pe_int (nomark _)) (pw_and1 (pt_cmpR op_gt (pe_callB (show CallR _ _ (rLen K) from call_lenK) rfl T.b_len bt_len (pa_cons (pv 3) pa_nil)) pe_int (nomark _))))) (pss_one (ps_expr (pe_bm PySem.F.plainAttrs_list PySem.F.slot_list_pop PySem.F.type_list_pop mt_popAt (pv 3) (pa_cons (pv 5) pa_nil)))) (pss_one (ps_if (pt_cmpR op_eq (pv 6) pe_int (nomark _)) (pss_one (ps_expr (pe_bm PySem.F.plainAttrs_list PySem.F.slot_list_insert PySem.F.type_list_insert mt_insert (pv 3) (pa_cons (pv 5) (pa_cons (pe_c D__law_next (hr.mono (by decide)) pass0 (pa_cons (pv 1) (pa_cons pe_int pa_nil))) pa_nil))))) (pss_one (ps_if (pt_cmpR op_eq (pe_c D__law_next (hr.mono (by decide)) pass0 (pa_cons (pv 1) (pa_cons pe_int pa_nil))) pe_int (nomark _)) (pss_one (ps_asg (pe_ix (show IxR _ (rIxL K) from ix_list) (pe_lst (pa_cons pe_bl (pa_cons pe_non (pa_cons pe_str (pa_cons (pe_op op_sub pe_int pe_int) pa_nil))))) (pe_c D__law_next (hr.mono (by decide)) pass0 (pa_cons (pv 1) (pa_cons pe_int pa_nil))) (fun _ _ => rfl)) (pg_sub (pv 3) (pv 5) set_list))) pss_nil))))))))))) (pss_cons (ps_set (i := 8) sc_law.nd rfl (by first | exact Or.inl rfl | exact Or.inr rfl) (pe_cmpR (show OpR _ (compareOp .Eq) (rEqD K) from op_eqD hr.units) (pe_lc (own := [("_law_one_here", 9)]) rfl sc_law.nd (show PI _ _ _ (iList K _) from pi_list (pv 3)) (blkOk_by (own := [("_law_one_here", 9)]) (N := ["_law_script", "_law_h", "_law_turn", "_law_found", "_law_change", "_law_at", "_law_kind", "_law_old", "_law_plain", "_law_one_here"]) (sc := defScope s_law) (by decide +kernel)) (fun _ _ _ _ _ => (pg_name (i := 9) sc_law.nd rfl (by first | exact Or.inl rfl | exact Or.inr rfl))) (fun _ _ _ _ _ => pts_one (PW.pt (pw_or (pt_not (pt_val (pe_callB (show CallR _ _ (rIsi K) from call_isi) rfl T.b_isinstance bt_isinstance (pa_cons (pv 9) (pa_cons (pe_bltn (v := .ty "int") (u := .type "int") rfl T.b_int bt_int rfl) pa_nil))))) (pw_or1 (pt_val (pe_callB (show CallR _ _ (rIsi K) from call_isi) rfl T.b_isinstance bt_isinstance (pa_cons (pv 9) (pa_cons (pe_bltn (v := .ty "bool") (u := .type "bool") rfl T.b_bool bt_bool rfl) pa_nil)))))))) (fun _ _ _ _ _ => (pv 9))) (pe_lst pa_nil) (nomark _))) (pss_cons (ps_if (PW.pt (pw_and (pt_val (pv 8)) (pw_and1 (pt_cmpR op_gt (pe_c D__law_next (hr.mono (by decide)) pass0 (pa_cons (pv 1) (pa_cons pe_int pa_nil))) pe_int (nomark _))))) (pss_one (ps_set (i := 3) sc_law.nd rfl (by first | exact Or.inl rfl | exact Or.inr rfl) (pe_op op_cat (pv 3) (pe_lst (pa_cons (pe_c D__law_sum (hr.mono (by decide)) pass0 (pa_cons (pv 3) pa_nil)) pa_nil))))) pss_nil) (pss_cons (ps_set (i := 3) sc_law.nd rfl (by first | exact Or.inl rfl | exact Or.inr rfl) (pe_op op_cat (pv 3) (pe_op op_rep (pe_lst (pa_cons pe_int pa_nil)) (pe_callTy call_int1 rfl T.b_int bt_int (pa_cons (pe_cmpR op_eq (pe_c D__law_next (hr.mono (by decide)) pass0 (pa_cons (pv 1) (pa_cons pe_int pa_nil))) pe_int (nomark _)) pa_nil))))) (pss_one (ps_if (pt_not (pt_val (pe_c D__law_alike (hr.mono (by decide)) pass0 (pa_cons (pe_c D__law_seen (hr.mono (by decide)) pass0 (pa_cons (pv 3) pa_nil)) (pa_cons (pe_c D__law_due (hr.mono (by decide)) pass0 (pa_cons (pe_c D__law_decoded (hr.mono (by decide)) pass0 (pa_cons (pv 3) pa_nil)) pa_nil)) pa_nil))))) (pss_one (ps_ret pe_bl)) pss_nil)))))))) (pss_one (ps_ret (pe_c D__law_alike (hr.mono (by decide)) pass0 (pa_cons (pe_c D__law_seen (hr.mono (by decide)) pass0 (pa_cons (pe_lst pa_nil) pa_nil)) (pa_cons (pe_tup (pa_cons pe_str (pa_cons pe_int pa_nil))) pa_nil))))))), ?_⟩
    walk_at "gx"
    refine ⟨a, ns, 52, rfl, ha, by omega, by decide, by decide, fun h hc H1 k1 hs1 => ?_⟩
    walk_at "gx"
    refine lp_rng1 (n := 8) rfl (by decide) (fun j σ H' => ∃ v2 v3 v4 v5 v6 v7 v8, σ = [some (.ref a), some (.ref h), v2, v3, v4, v5, v6, v7, v8, none] ∧ Hst H' h hc) ⟨_, _, _, _, _, _, _, rfl, hs1⟩ ?_ ?_
    · rintro t σ H0 ht ⟨v2, v3, v4, v5, v6, v7, v8, rfl, hs⟩
      walk_at "gx"
      refine ⟨h, hc, rfl, hs, fun d H2 rows W z fs ds dr ok m2 hs2 => ?_⟩
      refine w_nil ⟨d, rows, W, z, fs, ds, rfl, dr, ok, fun p H3 cs np k3 g3 l1 l400 low => ?_⟩
      have hs3 := hs2.same k3
      have F3 : Fd H3 h hc p (cs.map V.int) 400 := Fd.new hs2 np g3 (fun v hv => by obtain ⟨i, _, rfl⟩ := List.mem_map.mp hv; rfl) (by rw [List.length_map]; exact l1) (by rw [List.length_map]; exact l400)
      walk_at "gx"
      refine ⟨h, hc, 3, rfl, by decide, by decide, hs3, fun N H4 n0 n3 m4 hs4 => ?_⟩
      have F4 := F3.mv m4
      walk_at "gx"
      obtain ⟨N, rfl⟩ : ∃ n : Nat, N = n := ⟨N.toNat, by omega⟩
      refine lp_rng1 (n := N) rfl (by omega) (fun j σ H' => ∃ fp vals v4 v5 v6 v7, σ = [some (.ref a), some (.ref h), some (.int t), some (.ref fp), v4, v5, v6, v7, v8, none] ∧ Fd H' h hc fp vals (400 + j) ∧ Hst H' h hc) ⟨p, _, _, _, _, _, rfl, F4, hs4⟩ ?_ ?_
      · rintro j σ H5 hj ⟨fp, vals, v4, v5, v6, v7, rfl, F5, hs5⟩
        have g5 : SqL K H5 fp vals := SqL.of F5.g
        have nn : fp ≠ h ∧ fp ≠ hc := ⟨F5.nh, F5.nc⟩
        have l5 := F5.ln
        have l1 := F5.l1
        walk_at "gx"
        refine ⟨h, hc, vals.length, rfl, by omega, by omega, hs5, fun at_ H6 a0 a1 m6 hs6 => ?_⟩
        have F6 := F5.mv m6
        walk_at "gx"
        refine ⟨h, hc, 6, rfl, by decide, by decide, hs6, fun kk H7 b0 b1 m7 hs7 => ?_⟩
        have F7 := F6.mv m7
        walk_at "gx"
        refine ⟨_, _, rfl, ?_⟩
        obtain ⟨k, rfl⟩ : ∃ k : Nat, at_ = k := ⟨at_.toNat, by omega⟩
        have hk : k < vals.length := by omega
        have ev := List.getElem?_eq_getElem hk
        have okv := F5.ok _ (List.getElem_mem hk)
        generalize vals[k] = v at ev okv
        have g7 : SqL K H7 fp vals := SqL.of F7.g
        have oks : ∀ {y : V}, okV y = true → ∀ v ∈ vals.set k y, okV v = true := fun {y} hy v hv => (List.mem_or_eq_of_mem_set hv).elim (F5.ok v) fun e => e ▸ hy
        have hx : ixN vals.length (k : Int) = some k := by
          have z := ixN_of (n := vals.length) (i := (k : Int)) (by omega) (by omega)
          rwa [Int.toNat_natCast] at z
        clear F6 m6 m7 hs5 hs6 F5 g5
        refine w_seq (w_asg (w_old rfl rfl g7 (at_nat ev) (okV.item okv) fun old ho => ?_))
        refine w_gname (w_ifS (w_test (w_op (w_var rfl (w_c (w_I0 ⟨_, rfl, ited (fun c => ?_) (fun c => ?_)⟩))))))
        · refine w_asg (w_op (w_lst (w_cons (w_addX rfl ho fun z => ?_))))
          walk_at "gx"
          refine ⟨h, hc, 12, rfl, by decide, by decide, hs7, fun r H8 r0 r1 m8 hs8 => ?_⟩
          have F8 := F7.mv m8
          walk_at "gx"
          refine ⟨small (by simp), fun lp nlp => ?_⟩
          generalize hE9 : upd H8 lp _ = H9; obtain ⟨k9, g9⟩ := updN nlp hE9
          have F9 := F8.same k9
          walk_at "gx"
          refine ⟨h, hc, 6, rfl, by decide, by decide, hs8.same k9, fun r6 H10 q0 q1 m10 hs10 => ?_⟩
          have F10 := F9.mv m10
          have g10 := m10 _ _ (hs8.ne nlp).1 (hs8.ne nlp).2 g9
          obtain ⟨y, hat⟩ : ∃ y : Int, atI [V.int z, .int 0, .int 1, .int 99, .int r, .int 100] r6 = some (.int y) := by
            have h6 : r6 = 0 ∨ r6 = 1 ∨ r6 = 2 ∨ r6 = 3 ∨ r6 = 4 ∨ r6 = 5 := by omega
            rcases h6 with rfl | rfl | rfl | rfl | rfl | rfl <;> exact ⟨_, rfl⟩
          refine w_ixL (SqL.of g10) hat (w_gsub (w_var rfl (w_var rfl (w_setL F10.g hx ?_))))
          exact ⟨fp, _, _, _, _, _, rfl, F10.put (oks rfl) (by rw [List.length_set]; exact l1) (by rw [List.length_set]; omega), hs10.upd nn⟩
        · refine w_ifS (w_k3 rfl rfl g7 ?_)
          refine ited (fun c3 => ?_) (fun c3 => ?_)
          · refine w_drop (w_bm (w_var rfl ⟨.inl ⟨rfl, _, g7⟩, w_cons (w_var rfl (w_nil ⟨fp, vals, k, k, v, rfl, rfl, F7.g, by omega, by omega, (ixN_seq hx).1, ev, ?_⟩))⟩))
            exact ⟨fp, _, _, _, _, _, rfl, F7.put (fun v hv => F7.ok v (List.mem_of_mem_eraseIdx hv)) (by rw [List.length_eraseIdx_of_lt hk]; omega) (by rw [List.length_eraseIdx_of_lt hk]; omega), hs7.upd nn⟩
          · refine w_ifS (w_test (w_op (w_var rfl (w_c (w_eq rfl ⟨_, rfl, ited (fun c4 => ?_) (fun c4 => ?_)⟩)))))
            · refine w_drop (w_bm (w_var rfl ⟨.inl ⟨rfl, _, g7⟩, w_cons (w_var rfl (w_cons ?_))⟩))
              walk_at "gx"
              refine ⟨h, hc, 9, rfl, by decide, by decide, hs7, fun r H8 r0 r1 m8 hs8 => ?_⟩
              have F8 := F7.mv m8
              refine w_nil ⟨fp, vals, k, .int r, rfl, rfl, F8.g, smallL (by omega), by omega, by omega, ?_⟩
              rw [Int.toNat_natCast]
              refine ⟨fp, _, _, _, _, _, rfl, F8.put (fun v hv => ?_) (by simp; omega) (by simp; omega), hs8.upd nn⟩
              simp only [List.mem_append, List.mem_singleton] at hv
              rcases hv with (z | z) | z
              · exact F7.ok v (List.mem_of_mem_take z)
              · rw [z]; rfl
              · exact F7.ok v (List.mem_of_mem_drop z)
            · walk_at "gx"
              refine ⟨h, hc, 3, rfl, by decide, by decide, hs7, fun r H8 r0 r1 m8 hs8 => ?_⟩
              have F8 := F7.mv m8
              walk_at "gx"
              refine ited (fun c5 => ?_) (fun c5 => ?_)
              · walk_at "gx"
                refine ⟨small (by simp), fun lp nlp => ?_⟩
                generalize hE9 : upd H8 lp _ = H9; obtain ⟨k9, g9⟩ := updN nlp hE9
                have F9 := F8.same k9
                walk_at "gx"
                refine ⟨h, hc, 4, rfl, by decide, by decide, hs8.same k9, fun r4 H10 q0 q1 m10 hs10 => ?_⟩
                have F10 := F9.mv m10
                have g10 := m10 _ _ (hs8.ne nlp).1 (hs8.ne nlp).2 g9
                obtain ⟨y, hy, hat⟩ : ∃ y : V, okV y = true ∧ atI [V.bl true, .non, .str "a", .int (0 - 1)] r4 = some y := by
                  have h6 : r4 = 0 ∨ r4 = 1 ∨ r4 = 2 ∨ r4 = 3 := by omega
                  rcases h6 with rfl | rfl | rfl | rfl <;> exact ⟨_, rfl, rfl⟩
                refine w_ixL (SqL.of g10) hat (w_gsub (w_var rfl (w_var rfl (w_setL F10.g hx ?_))))
                exact ⟨fp, _, _, _, _, _, rfl, F10.put (oks hy) (by rw [List.length_set]; exact l1) (by rw [List.length_set]; omega), hs10.upd nn⟩
              · exact ⟨fp, _, _, _, _, _, rfl, ⟨F8.g, F8.ok, F8.l1, by omega, nn.1, nn.2⟩, hs8⟩
      · rintro σ H5 ⟨fp, vals, v4, v5, v6, v7, rfl, F5, hs5⟩
        have F5 : Fd H5 h hc fp vals 403 := ⟨F5.g, F5.ok, F5.l1, by have := F5.ln; omega, F5.nh, F5.nc⟩
        have l5 := F5.ln
        walk_at "gx"
        refine lc_list (SqL.of F5.g) (fun i D H' => H5 D = none ∧ Same H5 H' ∧ H' D = some (.lst ((vals.take i).filter npl))) (fun D hD => ⟨hD, Same.updD (Same.refl _) hD, upd_same⟩) (fun i D H' _ z => SqL.of (z.2.1 _ _ F5.g)) ?_ ?_
        · rintro i D H6 x hx ⟨hD, s6, g6⟩
          have ox := F5.ok x (List.mem_of_getElem? hx)
          have fs := filter_snoc (g := npl) hx
          have hi := (List.getElem?_eq_some_iff.mp hx).1
          have fin : ∀ {b : Bool} {te : TE} {σ : St}, b = npl x → te = tVar 9 → σ[9]? = some (some x) → if b = true then te σ H6 fun y H4 => ∃ acc, H4 D = some (.lst acc) ∧ acc.length < sizeLine ∧ H5 D = none ∧ Same H5 (upd H4 D (.lst (acc ++ [y]))) ∧ (upd H4 D (.lst (acc ++ [y]))) D = some (.lst ((vals.take (i + 1)).filter npl))
              else H5 D = none ∧ Same H5 H6 ∧ H6 D = some (.lst ((vals.take (i + 1)).filter npl)) := fun {b te σ} eb et e9 => by
            subst et
            cases b with
            | true =>
              refine iteT (w_var e9 ⟨_, g6, smallL (Nat.le_trans (List.length_filter_le _ _) (by rw [List.length_take]; omega)), hD, Same.updD s6 hD, ?_⟩)
              rw [upd_same, fs, ← eb, if_pos rfl]
            | false =>
              refine iteF ⟨hD, s6, ?_⟩
              rw [g6, fs, ← eb, if_neg (by decide), List.append_nil]
          refine w_gname ⟨rfl, w_or (w_not (w_tB (w_cb (w_cons (w_var rfl (w_cons (w_c (w_nil (isi_int (okV.item ox) ⟨_, rfl, ?_⟩)))))))))⟩
          cases hb : isInt x with
          | false => exact iteT (fin (by unfold npl; rw [hb]; rfl) rfl rfl)
          | true =>
            refine iteF (w_tB (w_cb (w_cons (w_var rfl (w_cons (w_c (w_nil (isi_bool (okV.item ox) ⟨_, rfl, ?_⟩))))))))
            exact fin (by unfold npl; rw [hb]; rfl) rfl rfl
        · rintro D H6 ⟨hD, s6, g6⟩
          rw [List.take_length] at g6
          refine w_lst (w_nil ⟨small (by simp), fun p7 n7 => ?_⟩)
          generalize hE7 : upd H6 p7 _ = H7; obtain ⟨k7, g7⟩ := updN n7 hE7
          have okf : ∀ v ∈ vals.filter npl, okV v = true := fun v hv => F5.ok v (List.mem_filter.mp hv).1
          refine w_eqNil (ds := (vals.filter npl).map dV) (.lst (SqL.of (k7 _ _ g6)) (dpAll_map okf)) g7 (n := 1) (fun y hy => ?_) (by decide) ?_
          · obtain ⟨v, hv, rfl⟩ := List.mem_map.mp hy
            exact dV_sh (okf v hv)
          have s7 : Same H5 H7 := fun b u z => k7 _ _ (s6 _ _ z)
          have F7 := F5.same s7
          have hs7 := hs5.same s7
          rw [List.isEmpty_map]
          refine w_gname (w_seq (w_ifS (w_and (w_tB (w_var rfl ⟨_, rfl, ?_⟩)))))
          have up : ∀ {H' : Hp} {p : Addr} {ws : List V} {m : Nat}, Fd H' h hc p ws m → m ≤ 404 → Fd H' h hc p ws 404 := fun F l => ⟨F.g, F.ok, F.l1, Nat.le_trans F.ln l, F.nh, F.nc⟩
          cases hp : (vals.filter npl).isEmpty with
          | false => exact iteF (w_next (w_tail hs7 (up F7 (by decide)) fun p' H' hs' => ⟨_, _, _, _, _, _, _, rfl, hs'⟩))
          | true =>
            obtain ⟨cs', rfl⟩ := plain_ints F5.ok hp
            refine iteT ?_
            walk_at "gx"
            refine ⟨h, hc, 6, rfl, by decide, by decide, hs7, fun r H8 r0 r1 m8 hs8 => ?_⟩
            have F8 := F7.mv m8
            refine w_c (w_I0 ⟨_, rfl, ited (fun c => ?_) (fun c => ?_)⟩)
            · walk_at "gx"
              refine ⟨fp, cs', rfl, SqL.of F8.g, ?_⟩
              walk_at "gx"
              refine ⟨small (by simp), fun p9 n9 => ?_⟩
              generalize hE9 : upd H8 p9 _ = H9; obtain ⟨k9, g9⟩ := updN n9 hE9
              have l8 := F8.ln
              have l1 := F8.l1
              refine w_cat (k9 _ _ F8.g) g9 (small (by simp at l8 ⊢; omega)) fun p10 H10 n10 k10 g10 => ?_
              have hs9 := hs8.same k9
              have F10 : Fd H10 h hc p10 (cs'.map V.int ++ [V.int (sumOf 3 cs')]) 404 := Fd.new hs9 n10 g10 (fun v hv => (List.mem_append.mp hv).elim (F8.ok v) fun z => by rw [List.mem_singleton.mp z]; rfl) (by rw [List.length_append]; omega) (by rw [List.length_append]; simp at l8 ⊢; omega)
              exact w_gname (w_tail (hs9.same k10) F10 fun p' H' hs' => ⟨_, _, _, _, _, _, _, rfl, hs'⟩)
            · exact w_next (w_tail hs8 (up F8 (by decide)) fun p' H' hs' => ⟨_, _, _, _, _, _, _, rfl, hs'⟩)
    · rintro σ H9 ⟨v2, v3, v4, v5, v6, v7, v8, rfl, hs⟩
      walk_at "gx"
      refine ⟨small (by simp), fun lp nlp => ?_⟩
      generalize hE1 : upd H9 lp _ = H1; obtain ⟨k1, g1⟩ := updN nlp hE1
      have c0 : codeOf [] = .error 0 := rfl
      walk_at "gx"
      refine ⟨lp, [], rfl, ⟨g1, (fun v hv => nomatch hv), by simp⟩, fun e p5 H5 hc5 s5 dp5 => ?_, fun m is p5 H5 hc5 ei s5 dp5 => ?_⟩
      · rw [c0] at hc5
        cases hc5
        walk_at "gx"
        refine ⟨small (by simp), fun p6 n6 => ?_⟩
        generalize hE6 : upd H5 p6 _ = H6; obtain ⟨k6, g6⟩ := updN n6 hE6
        exact w_nil ⟨_, _, _, rfl, Dp.same k6 dp5, .tup (SqT.of g6) (.cons (.str _) (.cons (.int _) .nil)), sht_err, fun H8 s8 => q H8⟩
      · rw [c0] at hc5
        cases hc5
end
end
section
/-! ### all together -/
abbrev s_Map_island : Stmt := inClass (top 33) 1
theorem sc_Map_island : FnScope ["self"] ["self"] (defScope s_Map_island) := ⟨rfl, rfl, rfl, by decide +kernel, rfl, by decide +kernel, by decide +kernel⟩
abbrev s_Map_signs : Stmt := inClass (top 33) 2
theorem sc_Map_signs : FnScope ["self"] ["self"] (defScope s_Map_signs) := ⟨rfl, rfl, rfl, by decide +kernel, rfl, by decide +kernel, by decide +kernel⟩
abbrev s_Map_facings : Stmt := inClass (top 33) 3
theorem sc_Map_facings : FnScope ["self"] ["self"] (defScope s_Map_facings) := ⟨rfl, rfl, rfl, by decide +kernel, rfl, by decide +kernel, by decide +kernel⟩
abbrev s_Map_instructions : Stmt := inClass (top 33) 4
theorem sc_Map_instructions : FnScope ["self"] ["self"] (defScope s_Map_instructions) := ⟨rfl, rfl, rfl, by decide +kernel, rfl, by decide +kernel, by decide +kernel⟩
abbrev s_Island_rows : Stmt := inClass (top 13) 1
theorem sc_Island_rows : FnScope ["self"] ["self"] (defScope s_Island_rows) := ⟨rfl, rfl, rfl, by decide +kernel, rfl, by decide +kernel, by decide +kernel⟩
structure DefsAt (K : PySem.W.Frag) (mg : Str → Option Value) : Prop where
  d_is_number : DefAt K mg "is_number" s_is_number ["value", "lowest", "highest"]
  d_is_rising : DefAt K mg "is_rising" s_is_rising ["values"]
  d_are_signs : DefAt K mg "are_signs" s_are_signs ["signs", "known"]
  d_are_turns : DefAt K mg "are_turns" s_are_turns ["turns"]
  d_is_range : DefAt K mg "is_range" s_is_range ["least", "most"]
  d_is_instruction : DefAt K mg "is_instruction" s_is_instruction ["instruction"]
  d_checksum : DefAt K mg "checksum" s_checksum ["values"]
  d_decode_map : DefAt K mg "decode_map" s_decode_map ["values"]
  d__law_mix : DefAt K mg "_law_mix" s__law_mix ["_law_script", "_law_seed"]
  d__law_next : DefAt K mg "_law_next" s__law_next ["_law_h", "_law_limit"]
  d__law_alike : DefAt K mg "_law_alike" s__law_alike ["_law_found", "_law_due_here"]
  d__law_rows : DefAt K mg "_law_rows" s__law_rows ["_law_h", "_law_most"]
  d__law_sign : DefAt K mg "_law_sign" s__law_sign ["_law_rows_here", "_law_cell"]
  d__law_cells : DefAt K mg "_law_cells" s__law_cells ["_law_rows_here"]
  d__law_on : DefAt K mg "_law_on" s__law_on ["_law_cell", "_law_facing"]
  d__law_line : DefAt K mg "_law_line" s__law_line ["_law_rows_here", "_law_cell", "_law_facing"]
  d__law_shore : DefAt K mg "_law_shore" s__law_shore ["_law_rows_here", "_law_state", "_law_side"]
  d__law_steps : DefAt K mg "_law_steps" s__law_steps ["_law_rows_here", "_law_state", "_law_instruction"]
  d__law_behind : DefAt K mg "_law_behind" s__law_behind ["_law_rows_here", "_law_states", "_law_instruction"]
  d__law_begin : DefAt K mg "_law_begin" s__law_begin ["_law_drawn_here"]
  d__law_final : DefAt K mg "_law_final" s__law_final ["_law_drawn_here"]
  d__law_signs : DefAt K mg "_law_signs" s__law_signs ["_law_h", "_law_known"]
  d__law_turns : DefAt K mg "_law_turns" s__law_turns ["_law_h"]
  d__law_one : DefAt K mg "_law_one" s__law_one ["_law_h"]
  d__law_drawn : DefAt K mg "_law_drawn" s__law_drawn ["_law_h", "_law_size", "_law_most"]
  d__law_parts : DefAt K mg "_law_parts" s__law_parts ["_law_word"]
  d__law_heads : DefAt K mg "_law_heads" s__law_heads []
  d__law_wrong_index : DefAt K mg "_law_wrong_index" s__law_wrong_index ["_law_drawn_here"]
  d__law_signs_code : DefAt K mg "_law_signs_code" s__law_signs_code ["_law_signs_here"]
  d__law_sum : DefAt K mg "_law_sum" s__law_sum ["_law_values"]
  d__law_code : DefAt K mg "_law_code" s__law_code ["_law_drawn_here"]
  d__law_pull : DefAt K mg "_law_pull" s__law_pull ["_law_values", "_law_state", "_law_low", "_law_high"]
  d__law_pull_signs : DefAt K mg "_law_pull_signs" s__law_pull_signs ["_law_values", "_law_state", "_law_many"]
  d__law_pull_turns : DefAt K mg "_law_pull_turns" s__law_pull_turns ["_law_values", "_law_state"]
  d__law_decoded : DefAt K mg "_law_decoded" s__law_decoded ["_law_values"]
  d__law_wrong_signs : DefAt K mg "_law_wrong_signs" s__law_wrong_signs ["_law_signs_here", "_law_water"]
  d__law_seen : DefAt K mg "_law_seen" s__law_seen ["_law_values"]
  d__law_due : DefAt K mg "_law_due" s__law_due ["_law_told"]
structure MetsAt (K : PySem.W.Frag) (C CM CI : Addr) : Prop where
  m_Island_init : MetAt K CI "__init__" "Island.__init__" s_Island_init ["self", "rows"]
  m_Map_init : MetAt K CM "__init__" "Map.__init__" s_Map_init ["self", "island", "signs", "facings", "instructions"]
  m_Reader_init : MetAt K C "__init__" "Reader.__init__" s_Reader_init ["self", "values"]
  m_Reader_take : MetAt K C "take" "Reader.take" s_Reader_take ["self", "smallest", "largest"]
  m_Reader_take_signs : MetAt K C "take_signs" "Reader.take_signs" s_Reader_take_signs ["self"]
  m_Reader_take_turns : MetAt K C "take_turns" "Reader.take_turns" s_Reader_take_turns ["self"]
  m_Reader_take_instruction : MetAt K C "take_instruction" "Reader.take_instruction" s_Reader_take_instruction ["self"]
  p_island : PropAt K CM "island" "Map.island" s_Map_island
  p_signs : PropAt K CM "signs" "Map.signs" s_Map_signs
  p_facings : PropAt K CM "facings" "Map.facings" s_Map_facings
  p_instructions : PropAt K CM "instructions" "Map.instructions" s_Map_instructions
  p_rows : PropAt K CI "rows" "Island.rows" s_Island_rows
section
variable {P : Program} {w : World} {K : PySem.W.Frag} {mg : Str → Option Value} {base : Heap}
theorem all_ok {C p0 p1 CM CI CD fD CV fV CE hA oA : Addr} {es : Array DictEntry} {n : Nat} {f : Addr} {fd : FuncData} (L : Fun K "law" "law" s_law f fd) (F : DefsAt K mg) (M : MetsAt K C CM CI) (T : TTxt P w K mg CD fD CV fV hA oA es n) (RC : RdC K mg C p0 p1) (IC : IslC K mg CI) (MC : MapC K mg CM) (S : SeenC K mg CM CI CD CV CE) :
    FnOk P w K mg base CX0 8 f fd ["_law_script"] (spLaw K) := by
  have X : XTxt P K mg CD fD CV fV := T.toXTxt
  have Q : PTxt K mg := X.toPTxt
  have U : Txt K mg := Q.toTxt
  have h_is_number := ok_is_number (P := P) (w := w) (base := base) F.d_is_number U
  have h_is_range := ok_is_range (P := P) (w := w) (base := base) F.d_is_range U (by assumption)
  have h_checksum := ok_checksum (P := P) (w := w) (base := base) F.d_checksum U
  have h_risS := ok_risS (P := P) (w := w) (base := base) F.d_is_rising Q
  have h_risT := ok_risT (P := P) (w := w) (base := base) F.d_is_rising Q
  have h_are_signs := ok_are_signs (P := P) (w := w) (base := base) F.d_are_signs Q (by assumption)
  have h_are_turns := ok_are_turns (P := P) (w := w) (base := base) F.d_are_turns Q (by assumption) (by assumption)
  have h_is_instruction := ok_is_instruction (P := P) (w := w) (base := base) F.d_is_instruction Q (by assumption) (by assumption) (by assumption) (by assumption)
  have h_island := ok_island (P := P) (w := w) (base := base) M.m_Island_init Q IC
  have h_map := ok_map (P := P) (w := w) (base := base) M.m_Map_init X MC (by assumption) (by assumption) (by assumption)
  have h_reader := ok_reader (P := P) (w := w) (mg := mg) (base := base) M.m_Reader_init RC
  have h_take := ok_take (P := P) (w := w) (base := base) M.m_Reader_take X RC (by assumption)
  have h_take_signs := ok_take_signs (P := P) (w := w) (base := base) M.m_Reader_take_signs X RC (by assumption)
  have h_take_turns := ok_take_turns (P := P) (w := w) (base := base) M.m_Reader_take_turns X RC (by assumption)
  have h_take_instruction := ok_take_instruction (P := P) (w := w) (base := base) M.m_Reader_take_instruction T RC (by assumption) (by assumption) (by assumption)
  have h_decode := ok_decode (P := P) (w := w) (base := base) F.d_decode_map T RC IC MC (by assumption) (by assumption) (by assumption) (by assumption) (by assumption) (by assumption) (by assumption) (by assumption)
  have h_p_island := PropAt.ok (P := P) (w := w) (mg := mg) (base := base) (fld := "own_island") M.p_island sc_Map_island rfl rfl MC.c MC.n1
  have h_p_signs := PropAt.ok (P := P) (w := w) (mg := mg) (base := base) (fld := "own_signs") M.p_signs sc_Map_signs rfl rfl MC.c MC.n2
  have h_p_facings := PropAt.ok (P := P) (w := w) (mg := mg) (base := base) (fld := "own_facings") M.p_facings sc_Map_facings rfl rfl MC.c MC.n3
  have h_p_instructions := PropAt.ok (P := P) (w := w) (mg := mg) (base := base) (fld := "own_instructions") M.p_instructions sc_Map_instructions rfl rfl MC.c MC.n4
  have h_p_rows := PropAt.ok (P := P) (w := w) (mg := mg) (base := base) (fld := "own_rows") M.p_rows sc_Island_rows rfl rfl IC.c IC.na
  have h_seen := ok_seen (P := P) (w := w) (base := base) F.d__law_seen Q S IC MC (by assumption) (by assumption) (by assumption) (by assumption) (by assumption) (by assumption)
  have h_next := ok_next (P := P) (w := w) (base := base) F.d__law_next U
  have h_mix := ok_mix (P := P) (w := w) (base := base) F.d__law_mix U
  have h_on := ok_on (P := P) (w := w) (base := base) F.d__law_on U
  have h_sign := ok_sign (P := P) (w := w) (base := base) F.d__law_sign U
  have h_cells := ok_cells (P := P) (w := w) (base := base) F.d__law_cells U
  have h_line := ok_line (P := P) (w := w) (base := base) F.d__law_line U (by assumption)
  have h_shore := ok_shore (P := P) (w := w) (base := base) F.d__law_shore U (by assumption) (by assumption)
  have h_steps := ok_steps (P := P) (w := w) (base := base) F.d__law_steps U (by assumption) (by assumption) (by assumption) (by assumption)
  have h_behind := ok_behind (P := P) (w := w) (base := base) F.d__law_behind U (by assumption)
  have h_begin := ok_begin (P := P) (w := w) (base := base) F.d__law_begin U (by assumption) (by assumption)
  have h_final := ok_final (P := P) (w := w) (base := base) F.d__law_final U (by assumption) (by assumption)
  have h_signs := ok_signs (P := P) (w := w) (base := base) F.d__law_signs U (by assumption)
  have h_turns := ok_turns (P := P) (w := w) (base := base) F.d__law_turns U (by assumption)
  have h_one := ok_one (P := P) (w := w) (base := base) F.d__law_one U (by assumption) (by assumption) (by assumption)
  have h_rows := ok_rows (P := P) (w := w) (base := base) F.d__law_rows U (by assumption)
  have h_drawn := ok_drawn (P := P) (w := w) (base := base) F.d__law_drawn U (by assumption) (by assumption) (by assumption) (by assumption) (by assumption) (by assumption) (by assumption)
  have h_signs_code := ok_signs_code (P := P) (w := w) (base := base) F.d__law_signs_code U
  have h_heads := ok_heads (P := P) (w := w) (base := base) F.d__law_heads U
  have h_code := ok_code (P := P) (w := w) (base := base) F.d__law_code U (by assumption) (by assumption)
  have h_sum := ok_sum (P := P) (w := w) (base := base) F.d__law_sum U
  have h_pull := ok_pull (P := P) (w := w) (base := base) F.d__law_pull U
  have h_pull_signs := ok_pull_signs (P := P) (w := w) (base := base) F.d__law_pull_signs U (by assumption)
  have h_pull_turns := ok_pull_turns (P := P) (w := w) (base := base) F.d__law_pull_turns U (by assumption)
  have h_parts := ok_parts (P := P) (w := w) (base := base) F.d__law_parts U
  have h_decoded := ok_decoded (P := P) (w := w) (base := base) F.d__law_decoded U (by assumption) (by assumption) (by assumption) (by assumption) (by assumption) (by assumption)
  have h_wrong_signs := ok_wrong_signs (P := P) (w := w) (base := base) F.d__law_wrong_signs U
  have h_wrong_index := ok_wrong_index (P := P) (w := w) (base := base) F.d__law_wrong_index U
  have h_due := ok_due (P := P) (w := w) (base := base) F.d__law_due U (by assumption) (by assumption)
  have h_alike := ok_alike (P := P) (w := w) (base := base) F.d__law_alike U 4
  exact ok_law L Q (by assumption) (by assumption) (by assumption) (by assumption) (by assumption) (by assumption) (by assumption) (by assumption) (by assumption)
end
end
section
/-! ### what the top has left, as premises, in parts -/
open KwX in
set_option maxHeartbeats 0 in
theorem z_F {P : Program} {w : World} {K : PySem.W.Frag} {h : Heap} {mg : Str → Option Value} (X : K.In h) (G : h.Ns mainGlobals mg)
    {f_is_number : Addr} {oc_is_number : Value} {kV_is_number : Value} {dc_is_number : Value} {pm_is_number : Value} {cd_is_number : Value} {ct_is_number : Value} {od_is_number : Option Addr} {an_is_number : Option Addr} {sl_is_number : Array (Option Value)} {f_is_rising : Addr} {oc_is_rising : Value} {kV_is_rising : Value} {dc_is_rising : Value} {pm_is_rising : Value} {cd_is_rising : Value} {ct_is_rising : Value} {od_is_rising : Option Addr} {an_is_rising : Option Addr} {sl_is_rising : Array (Option Value)} {f_are_signs : Addr} {oc_are_signs : Value} {kV_are_signs : Value} {dc_are_signs : Value} {pm_are_signs : Value} {cd_are_signs : Value} {ct_are_signs : Value} {od_are_signs : Option Addr} {an_are_signs : Option Addr} {sl_are_signs : Array (Option Value)} {f_are_turns : Addr} {oc_are_turns : Value} {kV_are_turns : Value} {dc_are_turns : Value} {pm_are_turns : Value} {cd_are_turns : Value} {ct_are_turns : Value} {od_are_turns : Option Addr} {an_are_turns : Option Addr} {sl_are_turns : Array (Option Value)} {f_is_range : Addr} {oc_is_range : Value} {kV_is_range : Value} {dc_is_range : Value} {pm_is_range : Value} {cd_is_range : Value} {ct_is_range : Value} {od_is_range : Option Addr} {an_is_range : Option Addr} {sl_is_range : Array (Option Value)} {f_is_instruction : Addr} {oc_is_instruction : Value} {kV_is_instruction : Value} {dc_is_instruction : Value} {pm_is_instruction : Value} {cd_is_instruction : Value} {ct_is_instruction : Value} {od_is_instruction : Option Addr} {an_is_instruction : Option Addr} {sl_is_instruction : Array (Option Value)} {f_checksum : Addr} {oc_checksum : Value} {kV_checksum : Value} {dc_checksum : Value} {pm_checksum : Value} {cd_checksum : Value} {ct_checksum : Value} {od_checksum : Option Addr} {an_checksum : Option Addr} {sl_checksum : Array (Option Value)} {f_decode_map : Addr} {oc_decode_map : Value} {kV_decode_map : Value} {dc_decode_map : Value} {pm_decode_map : Value} {cd_decode_map : Value} {ct_decode_map : Value} {od_decode_map : Option Addr} {an_decode_map : Option Addr} {sl_decode_map : Array (Option Value)} {f__law_mix : Addr} {oc__law_mix : Value} {kV__law_mix : Value} {dc__law_mix : Value} {pm__law_mix : Value} {cd__law_mix : Value} {ct__law_mix : Value} {od__law_mix : Option Addr} {an__law_mix : Option Addr} {sl__law_mix : Array (Option Value)} {f__law_next : Addr} {oc__law_next : Value} {kV__law_next : Value} {dc__law_next : Value} {pm__law_next : Value} {cd__law_next : Value} {ct__law_next : Value} {od__law_next : Option Addr} {an__law_next : Option Addr} {sl__law_next : Array (Option Value)} {f__law_alike : Addr} {oc__law_alike : Value} {kV__law_alike : Value} {dc__law_alike : Value} {pm__law_alike : Value} {cd__law_alike : Value} {ct__law_alike : Value} {od__law_alike : Option Addr} {an__law_alike : Option Addr} {sl__law_alike : Array (Option Value)} {f__law_rows : Addr} {oc__law_rows : Value} {kV__law_rows : Value} {dc__law_rows : Value} {pm__law_rows : Value} {cd__law_rows : Value} {ct__law_rows : Value} {od__law_rows : Option Addr} {an__law_rows : Option Addr} {sl__law_rows : Array (Option Value)} {f__law_sign : Addr} {oc__law_sign : Value} {kV__law_sign : Value} {dc__law_sign : Value} {pm__law_sign : Value} {cd__law_sign : Value} {ct__law_sign : Value} {od__law_sign : Option Addr} {an__law_sign : Option Addr} {sl__law_sign : Array (Option Value)} {f__law_cells : Addr} {oc__law_cells : Value} {kV__law_cells : Value} {dc__law_cells : Value} {pm__law_cells : Value} {cd__law_cells : Value} {ct__law_cells : Value} {od__law_cells : Option Addr} {an__law_cells : Option Addr} {sl__law_cells : Array (Option Value)} {f__law_on : Addr} {oc__law_on : Value} {kV__law_on : Value} {dc__law_on : Value} {pm__law_on : Value} {cd__law_on : Value} {ct__law_on : Value} {od__law_on : Option Addr} {an__law_on : Option Addr} {sl__law_on : Array (Option Value)} {f__law_line : Addr} {oc__law_line : Value} {kV__law_line : Value} {dc__law_line : Value} {pm__law_line : Value} {cd__law_line : Value} {ct__law_line : Value} {od__law_line : Option Addr} {an__law_line : Option Addr} {sl__law_line : Array (Option Value)} {f__law_shore : Addr} {oc__law_shore : Value} {kV__law_shore : Value} {dc__law_shore : Value} {pm__law_shore : Value} {cd__law_shore : Value} {ct__law_shore : Value} {od__law_shore : Option Addr} {an__law_shore : Option Addr} {sl__law_shore : Array (Option Value)} {f__law_steps : Addr} {oc__law_steps : Value} {kV__law_steps : Value} {dc__law_steps : Value} {pm__law_steps : Value} {cd__law_steps : Value} {ct__law_steps : Value} {od__law_steps : Option Addr} {an__law_steps : Option Addr} {sl__law_steps : Array (Option Value)} {f__law_behind : Addr} {oc__law_behind : Value} {kV__law_behind : Value} {dc__law_behind : Value} {pm__law_behind : Value} {cd__law_behind : Value} {ct__law_behind : Value} {od__law_behind : Option Addr} {an__law_behind : Option Addr} {sl__law_behind : Array (Option Value)} {f__law_begin : Addr} {oc__law_begin : Value} {kV__law_begin : Value} {dc__law_begin : Value} {pm__law_begin : Value} {cd__law_begin : Value} {ct__law_begin : Value} {od__law_begin : Option Addr} {an__law_begin : Option Addr} {sl__law_begin : Array (Option Value)} {f__law_final : Addr} {oc__law_final : Value} {kV__law_final : Value} {dc__law_final : Value} {pm__law_final : Value} {cd__law_final : Value} {ct__law_final : Value} {od__law_final : Option Addr} {an__law_final : Option Addr} {sl__law_final : Array (Option Value)} {f__law_signs : Addr} {oc__law_signs : Value} {kV__law_signs : Value} {dc__law_signs : Value} {pm__law_signs : Value} {cd__law_signs : Value} {ct__law_signs : Value} {od__law_signs : Option Addr} {an__law_signs : Option Addr} {sl__law_signs : Array (Option Value)} {f__law_turns : Addr} {oc__law_turns : Value} {kV__law_turns : Value} {dc__law_turns : Value} {pm__law_turns : Value} {cd__law_turns : Value} {ct__law_turns : Value} {od__law_turns : Option Addr} {an__law_turns : Option Addr} {sl__law_turns : Array (Option Value)} {f__law_one : Addr} {oc__law_one : Value} {kV__law_one : Value} {dc__law_one : Value} {pm__law_one : Value} {cd__law_one : Value} {ct__law_one : Value} {od__law_one : Option Addr} {an__law_one : Option Addr} {sl__law_one : Array (Option Value)} {f__law_drawn : Addr} {oc__law_drawn : Value} {kV__law_drawn : Value} {dc__law_drawn : Value} {pm__law_drawn : Value} {cd__law_drawn : Value} {ct__law_drawn : Value} {od__law_drawn : Option Addr} {an__law_drawn : Option Addr} {sl__law_drawn : Array (Option Value)} {f__law_parts : Addr} {oc__law_parts : Value} {kV__law_parts : Value} {dc__law_parts : Value} {pm__law_parts : Value} {cd__law_parts : Value} {ct__law_parts : Value} {od__law_parts : Option Addr} {an__law_parts : Option Addr} {sl__law_parts : Array (Option Value)} {f__law_heads : Addr} {oc__law_heads : Value} {kV__law_heads : Value} {dc__law_heads : Value} {pm__law_heads : Value} {cd__law_heads : Value} {ct__law_heads : Value} {od__law_heads : Option Addr} {an__law_heads : Option Addr} {sl__law_heads : Array (Option Value)} {f__law_wrong_index : Addr} {oc__law_wrong_index : Value} {kV__law_wrong_index : Value} {dc__law_wrong_index : Value} {pm__law_wrong_index : Value} {cd__law_wrong_index : Value} {ct__law_wrong_index : Value} {od__law_wrong_index : Option Addr} {an__law_wrong_index : Option Addr} {sl__law_wrong_index : Array (Option Value)} {f__law_signs_code : Addr} {oc__law_signs_code : Value} {kV__law_signs_code : Value} {dc__law_signs_code : Value} {pm__law_signs_code : Value} {cd__law_signs_code : Value} {ct__law_signs_code : Value} {od__law_signs_code : Option Addr} {an__law_signs_code : Option Addr} {sl__law_signs_code : Array (Option Value)} {f__law_sum : Addr} {oc__law_sum : Value} {kV__law_sum : Value} {dc__law_sum : Value} {pm__law_sum : Value} {cd__law_sum : Value} {ct__law_sum : Value} {od__law_sum : Option Addr} {an__law_sum : Option Addr} {sl__law_sum : Array (Option Value)} {f__law_code : Addr} {oc__law_code : Value} {kV__law_code : Value} {dc__law_code : Value} {pm__law_code : Value} {cd__law_code : Value} {ct__law_code : Value} {od__law_code : Option Addr} {an__law_code : Option Addr} {sl__law_code : Array (Option Value)} {f__law_pull : Addr} {oc__law_pull : Value} {kV__law_pull : Value} {dc__law_pull : Value} {pm__law_pull : Value} {cd__law_pull : Value} {ct__law_pull : Value} {od__law_pull : Option Addr} {an__law_pull : Option Addr} {sl__law_pull : Array (Option Value)} {f__law_pull_signs : Addr} {oc__law_pull_signs : Value} {kV__law_pull_signs : Value} {dc__law_pull_signs : Value} {pm__law_pull_signs : Value} {cd__law_pull_signs : Value} {ct__law_pull_signs : Value} {od__law_pull_signs : Option Addr} {an__law_pull_signs : Option Addr} {sl__law_pull_signs : Array (Option Value)} {f__law_pull_turns : Addr} {oc__law_pull_turns : Value} {kV__law_pull_turns : Value} {dc__law_pull_turns : Value} {pm__law_pull_turns : Value} {cd__law_pull_turns : Value} {ct__law_pull_turns : Value} {od__law_pull_turns : Option Addr} {an__law_pull_turns : Option Addr} {sl__law_pull_turns : Array (Option Value)} {f__law_decoded : Addr} {oc__law_decoded : Value} {kV__law_decoded : Value} {dc__law_decoded : Value} {pm__law_decoded : Value} {cd__law_decoded : Value} {ct__law_decoded : Value} {od__law_decoded : Option Addr} {an__law_decoded : Option Addr} {sl__law_decoded : Array (Option Value)} {f__law_wrong_signs : Addr} {oc__law_wrong_signs : Value} {kV__law_wrong_signs : Value} {dc__law_wrong_signs : Value} {pm__law_wrong_signs : Value} {cd__law_wrong_signs : Value} {ct__law_wrong_signs : Value} {od__law_wrong_signs : Option Addr} {an__law_wrong_signs : Option Addr} {sl__law_wrong_signs : Array (Option Value)} {f__law_seen : Addr} {oc__law_seen : Value} {kV__law_seen : Value} {dc__law_seen : Value} {pm__law_seen : Value} {cd__law_seen : Value} {ct__law_seen : Value} {od__law_seen : Option Addr} {an__law_seen : Option Addr} {sl__law_seen : Array (Option Value)} {f__law_due : Addr} {oc__law_due : Value} {kV__law_due : Value} {dc__law_due : Value} {pm__law_due : Value} {cd__law_due : Value} {ct__law_due : Value} {od__law_due : Option Addr} {an__law_due : Option Addr} {sl__law_due : Array (Option Value)}
    (a_is_number : PySem.W.nsIn K mainGlobals "is_number" = some (some (.ref f_is_number)))
    (l_is_number : K.lookup f_is_number = some ⟨oc_is_number, od_is_number, .func (PySem.W.fnOf "is_number" "is_number" (defArgs s_is_number) (defBody s_is_number) (defScope s_is_number) .none kV_is_number dc_is_number pm_is_number an_is_number cd_is_number ct_is_number), sl_is_number⟩)
    (c_is_number : PySem.W.codeIn K cd_is_number "is_number" = true)
    (k_is_number : PySem.W.keepIn K (.ref f_is_number) = true)
    (a_is_rising : PySem.W.nsIn K mainGlobals "is_rising" = some (some (.ref f_is_rising)))
    (l_is_rising : K.lookup f_is_rising = some ⟨oc_is_rising, od_is_rising, .func (PySem.W.fnOf "is_rising" "is_rising" (defArgs s_is_rising) (defBody s_is_rising) (defScope s_is_rising) .none kV_is_rising dc_is_rising pm_is_rising an_is_rising cd_is_rising ct_is_rising), sl_is_rising⟩)
    (c_is_rising : PySem.W.codeIn K cd_is_rising "is_rising" = true)
    (k_is_rising : PySem.W.keepIn K (.ref f_is_rising) = true)
    (a_are_signs : PySem.W.nsIn K mainGlobals "are_signs" = some (some (.ref f_are_signs)))
    (l_are_signs : K.lookup f_are_signs = some ⟨oc_are_signs, od_are_signs, .func (PySem.W.fnOf "are_signs" "are_signs" (defArgs s_are_signs) (defBody s_are_signs) (defScope s_are_signs) .none kV_are_signs dc_are_signs pm_are_signs an_are_signs cd_are_signs ct_are_signs), sl_are_signs⟩)
    (c_are_signs : PySem.W.codeIn K cd_are_signs "are_signs" = true)
    (k_are_signs : PySem.W.keepIn K (.ref f_are_signs) = true)
    (a_are_turns : PySem.W.nsIn K mainGlobals "are_turns" = some (some (.ref f_are_turns)))
    (l_are_turns : K.lookup f_are_turns = some ⟨oc_are_turns, od_are_turns, .func (PySem.W.fnOf "are_turns" "are_turns" (defArgs s_are_turns) (defBody s_are_turns) (defScope s_are_turns) .none kV_are_turns dc_are_turns pm_are_turns an_are_turns cd_are_turns ct_are_turns), sl_are_turns⟩)
    (c_are_turns : PySem.W.codeIn K cd_are_turns "are_turns" = true)
    (k_are_turns : PySem.W.keepIn K (.ref f_are_turns) = true)
    (a_is_range : PySem.W.nsIn K mainGlobals "is_range" = some (some (.ref f_is_range)))
    (l_is_range : K.lookup f_is_range = some ⟨oc_is_range, od_is_range, .func (PySem.W.fnOf "is_range" "is_range" (defArgs s_is_range) (defBody s_is_range) (defScope s_is_range) .none kV_is_range dc_is_range pm_is_range an_is_range cd_is_range ct_is_range), sl_is_range⟩)
    (c_is_range : PySem.W.codeIn K cd_is_range "is_range" = true)
    (k_is_range : PySem.W.keepIn K (.ref f_is_range) = true)
    (a_is_instruction : PySem.W.nsIn K mainGlobals "is_instruction" = some (some (.ref f_is_instruction)))
    (l_is_instruction : K.lookup f_is_instruction = some ⟨oc_is_instruction, od_is_instruction, .func (PySem.W.fnOf "is_instruction" "is_instruction" (defArgs s_is_instruction) (defBody s_is_instruction) (defScope s_is_instruction) .none kV_is_instruction dc_is_instruction pm_is_instruction an_is_instruction cd_is_instruction ct_is_instruction), sl_is_instruction⟩)
    (c_is_instruction : PySem.W.codeIn K cd_is_instruction "is_instruction" = true)
    (k_is_instruction : PySem.W.keepIn K (.ref f_is_instruction) = true)
    (a_checksum : PySem.W.nsIn K mainGlobals "checksum" = some (some (.ref f_checksum)))
    (l_checksum : K.lookup f_checksum = some ⟨oc_checksum, od_checksum, .func (PySem.W.fnOf "checksum" "checksum" (defArgs s_checksum) (defBody s_checksum) (defScope s_checksum) .none kV_checksum dc_checksum pm_checksum an_checksum cd_checksum ct_checksum), sl_checksum⟩)
    (c_checksum : PySem.W.codeIn K cd_checksum "checksum" = true)
    (k_checksum : PySem.W.keepIn K (.ref f_checksum) = true)
    (a_decode_map : PySem.W.nsIn K mainGlobals "decode_map" = some (some (.ref f_decode_map)))
    (l_decode_map : K.lookup f_decode_map = some ⟨oc_decode_map, od_decode_map, .func (PySem.W.fnOf "decode_map" "decode_map" (defArgs s_decode_map) (defBody s_decode_map) (defScope s_decode_map) .none kV_decode_map dc_decode_map pm_decode_map an_decode_map cd_decode_map ct_decode_map), sl_decode_map⟩)
    (c_decode_map : PySem.W.codeIn K cd_decode_map "decode_map" = true)
    (k_decode_map : PySem.W.keepIn K (.ref f_decode_map) = true)
    (a__law_mix : PySem.W.nsIn K mainGlobals "_law_mix" = some (some (.ref f__law_mix)))
    (l__law_mix : K.lookup f__law_mix = some ⟨oc__law_mix, od__law_mix, .func (PySem.W.fnOf "_law_mix" "_law_mix" (defArgs s__law_mix) (defBody s__law_mix) (defScope s__law_mix) .none kV__law_mix dc__law_mix pm__law_mix an__law_mix cd__law_mix ct__law_mix), sl__law_mix⟩)
    (c__law_mix : PySem.W.codeIn K cd__law_mix "_law_mix" = true)
    (k__law_mix : PySem.W.keepIn K (.ref f__law_mix) = true)
    (a__law_next : PySem.W.nsIn K mainGlobals "_law_next" = some (some (.ref f__law_next)))
    (l__law_next : K.lookup f__law_next = some ⟨oc__law_next, od__law_next, .func (PySem.W.fnOf "_law_next" "_law_next" (defArgs s__law_next) (defBody s__law_next) (defScope s__law_next) .none kV__law_next dc__law_next pm__law_next an__law_next cd__law_next ct__law_next), sl__law_next⟩)
    (c__law_next : PySem.W.codeIn K cd__law_next "_law_next" = true)
    (k__law_next : PySem.W.keepIn K (.ref f__law_next) = true)
    (a__law_alike : PySem.W.nsIn K mainGlobals "_law_alike" = some (some (.ref f__law_alike)))
    (l__law_alike : K.lookup f__law_alike = some ⟨oc__law_alike, od__law_alike, .func (PySem.W.fnOf "_law_alike" "_law_alike" (defArgs s__law_alike) (defBody s__law_alike) (defScope s__law_alike) .none kV__law_alike dc__law_alike pm__law_alike an__law_alike cd__law_alike ct__law_alike), sl__law_alike⟩)
    (c__law_alike : PySem.W.codeIn K cd__law_alike "_law_alike" = true)
    (k__law_alike : PySem.W.keepIn K (.ref f__law_alike) = true)
    (a__law_rows : PySem.W.nsIn K mainGlobals "_law_rows" = some (some (.ref f__law_rows)))
    (l__law_rows : K.lookup f__law_rows = some ⟨oc__law_rows, od__law_rows, .func (PySem.W.fnOf "_law_rows" "_law_rows" (defArgs s__law_rows) (defBody s__law_rows) (defScope s__law_rows) .none kV__law_rows dc__law_rows pm__law_rows an__law_rows cd__law_rows ct__law_rows), sl__law_rows⟩)
    (c__law_rows : PySem.W.codeIn K cd__law_rows "_law_rows" = true)
    (k__law_rows : PySem.W.keepIn K (.ref f__law_rows) = true)
    (a__law_sign : PySem.W.nsIn K mainGlobals "_law_sign" = some (some (.ref f__law_sign)))
    (l__law_sign : K.lookup f__law_sign = some ⟨oc__law_sign, od__law_sign, .func (PySem.W.fnOf "_law_sign" "_law_sign" (defArgs s__law_sign) (defBody s__law_sign) (defScope s__law_sign) .none kV__law_sign dc__law_sign pm__law_sign an__law_sign cd__law_sign ct__law_sign), sl__law_sign⟩)
    (c__law_sign : PySem.W.codeIn K cd__law_sign "_law_sign" = true)
    (k__law_sign : PySem.W.keepIn K (.ref f__law_sign) = true)
    (a__law_cells : PySem.W.nsIn K mainGlobals "_law_cells" = some (some (.ref f__law_cells)))
    (l__law_cells : K.lookup f__law_cells = some ⟨oc__law_cells, od__law_cells, .func (PySem.W.fnOf "_law_cells" "_law_cells" (defArgs s__law_cells) (defBody s__law_cells) (defScope s__law_cells) .none kV__law_cells dc__law_cells pm__law_cells an__law_cells cd__law_cells ct__law_cells), sl__law_cells⟩)
    (c__law_cells : PySem.W.codeIn K cd__law_cells "_law_cells" = true)
    (k__law_cells : PySem.W.keepIn K (.ref f__law_cells) = true)
    (a__law_on : PySem.W.nsIn K mainGlobals "_law_on" = some (some (.ref f__law_on)))
    (l__law_on : K.lookup f__law_on = some ⟨oc__law_on, od__law_on, .func (PySem.W.fnOf "_law_on" "_law_on" (defArgs s__law_on) (defBody s__law_on) (defScope s__law_on) .none kV__law_on dc__law_on pm__law_on an__law_on cd__law_on ct__law_on), sl__law_on⟩)
    (c__law_on : PySem.W.codeIn K cd__law_on "_law_on" = true)
    (k__law_on : PySem.W.keepIn K (.ref f__law_on) = true)
    (a__law_line : PySem.W.nsIn K mainGlobals "_law_line" = some (some (.ref f__law_line)))
    (l__law_line : K.lookup f__law_line = some ⟨oc__law_line, od__law_line, .func (PySem.W.fnOf "_law_line" "_law_line" (defArgs s__law_line) (defBody s__law_line) (defScope s__law_line) .none kV__law_line dc__law_line pm__law_line an__law_line cd__law_line ct__law_line), sl__law_line⟩)
    (c__law_line : PySem.W.codeIn K cd__law_line "_law_line" = true)
    (k__law_line : PySem.W.keepIn K (.ref f__law_line) = true)
    (a__law_shore : PySem.W.nsIn K mainGlobals "_law_shore" = some (some (.ref f__law_shore)))
    (l__law_shore : K.lookup f__law_shore = some ⟨oc__law_shore, od__law_shore, .func (PySem.W.fnOf "_law_shore" "_law_shore" (defArgs s__law_shore) (defBody s__law_shore) (defScope s__law_shore) .none kV__law_shore dc__law_shore pm__law_shore an__law_shore cd__law_shore ct__law_shore), sl__law_shore⟩)
    (c__law_shore : PySem.W.codeIn K cd__law_shore "_law_shore" = true)
    (k__law_shore : PySem.W.keepIn K (.ref f__law_shore) = true)
    (a__law_steps : PySem.W.nsIn K mainGlobals "_law_steps" = some (some (.ref f__law_steps)))
    (l__law_steps : K.lookup f__law_steps = some ⟨oc__law_steps, od__law_steps, .func (PySem.W.fnOf "_law_steps" "_law_steps" (defArgs s__law_steps) (defBody s__law_steps) (defScope s__law_steps) .none kV__law_steps dc__law_steps pm__law_steps an__law_steps cd__law_steps ct__law_steps), sl__law_steps⟩)
    (c__law_steps : PySem.W.codeIn K cd__law_steps "_law_steps" = true)
    (k__law_steps : PySem.W.keepIn K (.ref f__law_steps) = true)
    (a__law_behind : PySem.W.nsIn K mainGlobals "_law_behind" = some (some (.ref f__law_behind)))
    (l__law_behind : K.lookup f__law_behind = some ⟨oc__law_behind, od__law_behind, .func (PySem.W.fnOf "_law_behind" "_law_behind" (defArgs s__law_behind) (defBody s__law_behind) (defScope s__law_behind) .none kV__law_behind dc__law_behind pm__law_behind an__law_behind cd__law_behind ct__law_behind), sl__law_behind⟩)
    (c__law_behind : PySem.W.codeIn K cd__law_behind "_law_behind" = true)
    (k__law_behind : PySem.W.keepIn K (.ref f__law_behind) = true)
    (a__law_begin : PySem.W.nsIn K mainGlobals "_law_begin" = some (some (.ref f__law_begin)))
    (l__law_begin : K.lookup f__law_begin = some ⟨oc__law_begin, od__law_begin, .func (PySem.W.fnOf "_law_begin" "_law_begin" (defArgs s__law_begin) (defBody s__law_begin) (defScope s__law_begin) .none kV__law_begin dc__law_begin pm__law_begin an__law_begin cd__law_begin ct__law_begin), sl__law_begin⟩)
    (c__law_begin : PySem.W.codeIn K cd__law_begin "_law_begin" = true)
    (k__law_begin : PySem.W.keepIn K (.ref f__law_begin) = true)
    (a__law_final : PySem.W.nsIn K mainGlobals "_law_final" = some (some (.ref f__law_final)))
    (l__law_final : K.lookup f__law_final = some ⟨oc__law_final, od__law_final, .func (PySem.W.fnOf "_law_final" "_law_final" (defArgs s__law_final) (defBody s__law_final) (defScope s__law_final) .none kV__law_final dc__law_final pm__law_final an__law_final cd__law_final ct__law_final), sl__law_final⟩)
    (c__law_final : PySem.W.codeIn K cd__law_final "_law_final" = true)
    (k__law_final : PySem.W.keepIn K (.ref f__law_final) = true)
    (a__law_signs : PySem.W.nsIn K mainGlobals "_law_signs" = some (some (.ref f__law_signs)))
    (l__law_signs : K.lookup f__law_signs = some ⟨oc__law_signs, od__law_signs, .func (PySem.W.fnOf "_law_signs" "_law_signs" (defArgs s__law_signs) (defBody s__law_signs) (defScope s__law_signs) .none kV__law_signs dc__law_signs pm__law_signs an__law_signs cd__law_signs ct__law_signs), sl__law_signs⟩)
    (c__law_signs : PySem.W.codeIn K cd__law_signs "_law_signs" = true)
    (k__law_signs : PySem.W.keepIn K (.ref f__law_signs) = true)
    (a__law_turns : PySem.W.nsIn K mainGlobals "_law_turns" = some (some (.ref f__law_turns)))
    (l__law_turns : K.lookup f__law_turns = some ⟨oc__law_turns, od__law_turns, .func (PySem.W.fnOf "_law_turns" "_law_turns" (defArgs s__law_turns) (defBody s__law_turns) (defScope s__law_turns) .none kV__law_turns dc__law_turns pm__law_turns an__law_turns cd__law_turns ct__law_turns), sl__law_turns⟩)
    (c__law_turns : PySem.W.codeIn K cd__law_turns "_law_turns" = true)
    (k__law_turns : PySem.W.keepIn K (.ref f__law_turns) = true)
    (a__law_one : PySem.W.nsIn K mainGlobals "_law_one" = some (some (.ref f__law_one)))
    (l__law_one : K.lookup f__law_one = some ⟨oc__law_one, od__law_one, .func (PySem.W.fnOf "_law_one" "_law_one" (defArgs s__law_one) (defBody s__law_one) (defScope s__law_one) .none kV__law_one dc__law_one pm__law_one an__law_one cd__law_one ct__law_one), sl__law_one⟩)
    (c__law_one : PySem.W.codeIn K cd__law_one "_law_one" = true)
    (k__law_one : PySem.W.keepIn K (.ref f__law_one) = true)
    (a__law_drawn : PySem.W.nsIn K mainGlobals "_law_drawn" = some (some (.ref f__law_drawn)))
    (l__law_drawn : K.lookup f__law_drawn = some ⟨oc__law_drawn, od__law_drawn, .func (PySem.W.fnOf "_law_drawn" "_law_drawn" (defArgs s__law_drawn) (defBody s__law_drawn) (defScope s__law_drawn) .none kV__law_drawn dc__law_drawn pm__law_drawn an__law_drawn cd__law_drawn ct__law_drawn), sl__law_drawn⟩)
    (c__law_drawn : PySem.W.codeIn K cd__law_drawn "_law_drawn" = true)
    (k__law_drawn : PySem.W.keepIn K (.ref f__law_drawn) = true)
    (a__law_parts : PySem.W.nsIn K mainGlobals "_law_parts" = some (some (.ref f__law_parts)))
    (l__law_parts : K.lookup f__law_parts = some ⟨oc__law_parts, od__law_parts, .func (PySem.W.fnOf "_law_parts" "_law_parts" (defArgs s__law_parts) (defBody s__law_parts) (defScope s__law_parts) .none kV__law_parts dc__law_parts pm__law_parts an__law_parts cd__law_parts ct__law_parts), sl__law_parts⟩)
    (c__law_parts : PySem.W.codeIn K cd__law_parts "_law_parts" = true)
    (k__law_parts : PySem.W.keepIn K (.ref f__law_parts) = true)
    (a__law_heads : PySem.W.nsIn K mainGlobals "_law_heads" = some (some (.ref f__law_heads)))
    (l__law_heads : K.lookup f__law_heads = some ⟨oc__law_heads, od__law_heads, .func (PySem.W.fnOf "_law_heads" "_law_heads" (defArgs s__law_heads) (defBody s__law_heads) (defScope s__law_heads) .none kV__law_heads dc__law_heads pm__law_heads an__law_heads cd__law_heads ct__law_heads), sl__law_heads⟩)
    (c__law_heads : PySem.W.codeIn K cd__law_heads "_law_heads" = true)
    (k__law_heads : PySem.W.keepIn K (.ref f__law_heads) = true)
    (a__law_wrong_index : PySem.W.nsIn K mainGlobals "_law_wrong_index" = some (some (.ref f__law_wrong_index)))
    (l__law_wrong_index : K.lookup f__law_wrong_index = some ⟨oc__law_wrong_index, od__law_wrong_index, .func (PySem.W.fnOf "_law_wrong_index" "_law_wrong_index" (defArgs s__law_wrong_index) (defBody s__law_wrong_index) (defScope s__law_wrong_index) .none kV__law_wrong_index dc__law_wrong_index pm__law_wrong_index an__law_wrong_index cd__law_wrong_index ct__law_wrong_index), sl__law_wrong_index⟩)
    (c__law_wrong_index : PySem.W.codeIn K cd__law_wrong_index "_law_wrong_index" = true)
    (k__law_wrong_index : PySem.W.keepIn K (.ref f__law_wrong_index) = true)
    (a__law_signs_code : PySem.W.nsIn K mainGlobals "_law_signs_code" = some (some (.ref f__law_signs_code)))
    (l__law_signs_code : K.lookup f__law_signs_code = some ⟨oc__law_signs_code, od__law_signs_code, .func (PySem.W.fnOf "_law_signs_code" "_law_signs_code" (defArgs s__law_signs_code) (defBody s__law_signs_code) (defScope s__law_signs_code) .none kV__law_signs_code dc__law_signs_code pm__law_signs_code an__law_signs_code cd__law_signs_code ct__law_signs_code), sl__law_signs_code⟩)
    (c__law_signs_code : PySem.W.codeIn K cd__law_signs_code "_law_signs_code" = true)
    (k__law_signs_code : PySem.W.keepIn K (.ref f__law_signs_code) = true)
    (a__law_sum : PySem.W.nsIn K mainGlobals "_law_sum" = some (some (.ref f__law_sum)))
    (l__law_sum : K.lookup f__law_sum = some ⟨oc__law_sum, od__law_sum, .func (PySem.W.fnOf "_law_sum" "_law_sum" (defArgs s__law_sum) (defBody s__law_sum) (defScope s__law_sum) .none kV__law_sum dc__law_sum pm__law_sum an__law_sum cd__law_sum ct__law_sum), sl__law_sum⟩)
    (c__law_sum : PySem.W.codeIn K cd__law_sum "_law_sum" = true)
    (k__law_sum : PySem.W.keepIn K (.ref f__law_sum) = true)
    (a__law_code : PySem.W.nsIn K mainGlobals "_law_code" = some (some (.ref f__law_code)))
    (l__law_code : K.lookup f__law_code = some ⟨oc__law_code, od__law_code, .func (PySem.W.fnOf "_law_code" "_law_code" (defArgs s__law_code) (defBody s__law_code) (defScope s__law_code) .none kV__law_code dc__law_code pm__law_code an__law_code cd__law_code ct__law_code), sl__law_code⟩)
    (c__law_code : PySem.W.codeIn K cd__law_code "_law_code" = true)
    (k__law_code : PySem.W.keepIn K (.ref f__law_code) = true)
    (a__law_pull : PySem.W.nsIn K mainGlobals "_law_pull" = some (some (.ref f__law_pull)))
    (l__law_pull : K.lookup f__law_pull = some ⟨oc__law_pull, od__law_pull, .func (PySem.W.fnOf "_law_pull" "_law_pull" (defArgs s__law_pull) (defBody s__law_pull) (defScope s__law_pull) .none kV__law_pull dc__law_pull pm__law_pull an__law_pull cd__law_pull ct__law_pull), sl__law_pull⟩)
    (c__law_pull : PySem.W.codeIn K cd__law_pull "_law_pull" = true)
    (k__law_pull : PySem.W.keepIn K (.ref f__law_pull) = true)
    (a__law_pull_signs : PySem.W.nsIn K mainGlobals "_law_pull_signs" = some (some (.ref f__law_pull_signs)))
    (l__law_pull_signs : K.lookup f__law_pull_signs = some ⟨oc__law_pull_signs, od__law_pull_signs, .func (PySem.W.fnOf "_law_pull_signs" "_law_pull_signs" (defArgs s__law_pull_signs) (defBody s__law_pull_signs) (defScope s__law_pull_signs) .none kV__law_pull_signs dc__law_pull_signs pm__law_pull_signs an__law_pull_signs cd__law_pull_signs ct__law_pull_signs), sl__law_pull_signs⟩)
    (c__law_pull_signs : PySem.W.codeIn K cd__law_pull_signs "_law_pull_signs" = true)
    (k__law_pull_signs : PySem.W.keepIn K (.ref f__law_pull_signs) = true)
    (a__law_pull_turns : PySem.W.nsIn K mainGlobals "_law_pull_turns" = some (some (.ref f__law_pull_turns)))
    (l__law_pull_turns : K.lookup f__law_pull_turns = some ⟨oc__law_pull_turns, od__law_pull_turns, .func (PySem.W.fnOf "_law_pull_turns" "_law_pull_turns" (defArgs s__law_pull_turns) (defBody s__law_pull_turns) (defScope s__law_pull_turns) .none kV__law_pull_turns dc__law_pull_turns pm__law_pull_turns an__law_pull_turns cd__law_pull_turns ct__law_pull_turns), sl__law_pull_turns⟩)
    (c__law_pull_turns : PySem.W.codeIn K cd__law_pull_turns "_law_pull_turns" = true)
    (k__law_pull_turns : PySem.W.keepIn K (.ref f__law_pull_turns) = true)
    (a__law_decoded : PySem.W.nsIn K mainGlobals "_law_decoded" = some (some (.ref f__law_decoded)))
    (l__law_decoded : K.lookup f__law_decoded = some ⟨oc__law_decoded, od__law_decoded, .func (PySem.W.fnOf "_law_decoded" "_law_decoded" (defArgs s__law_decoded) (defBody s__law_decoded) (defScope s__law_decoded) .none kV__law_decoded dc__law_decoded pm__law_decoded an__law_decoded cd__law_decoded ct__law_decoded), sl__law_decoded⟩)
    (c__law_decoded : PySem.W.codeIn K cd__law_decoded "_law_decoded" = true)
    (k__law_decoded : PySem.W.keepIn K (.ref f__law_decoded) = true)
    (a__law_wrong_signs : PySem.W.nsIn K mainGlobals "_law_wrong_signs" = some (some (.ref f__law_wrong_signs)))
    (l__law_wrong_signs : K.lookup f__law_wrong_signs = some ⟨oc__law_wrong_signs, od__law_wrong_signs, .func (PySem.W.fnOf "_law_wrong_signs" "_law_wrong_signs" (defArgs s__law_wrong_signs) (defBody s__law_wrong_signs) (defScope s__law_wrong_signs) .none kV__law_wrong_signs dc__law_wrong_signs pm__law_wrong_signs an__law_wrong_signs cd__law_wrong_signs ct__law_wrong_signs), sl__law_wrong_signs⟩)
    (c__law_wrong_signs : PySem.W.codeIn K cd__law_wrong_signs "_law_wrong_signs" = true)
    (k__law_wrong_signs : PySem.W.keepIn K (.ref f__law_wrong_signs) = true)
    (a__law_seen : PySem.W.nsIn K mainGlobals "_law_seen" = some (some (.ref f__law_seen)))
    (l__law_seen : K.lookup f__law_seen = some ⟨oc__law_seen, od__law_seen, .func (PySem.W.fnOf "_law_seen" "_law_seen" (defArgs s__law_seen) (defBody s__law_seen) (defScope s__law_seen) .none kV__law_seen dc__law_seen pm__law_seen an__law_seen cd__law_seen ct__law_seen), sl__law_seen⟩)
    (c__law_seen : PySem.W.codeIn K cd__law_seen "_law_seen" = true)
    (k__law_seen : PySem.W.keepIn K (.ref f__law_seen) = true)
    (a__law_due : PySem.W.nsIn K mainGlobals "_law_due" = some (some (.ref f__law_due)))
    (l__law_due : K.lookup f__law_due = some ⟨oc__law_due, od__law_due, .func (PySem.W.fnOf "_law_due" "_law_due" (defArgs s__law_due) (defBody s__law_due) (defScope s__law_due) .none kV__law_due dc__law_due pm__law_due an__law_due cd__law_due ct__law_due), sl__law_due⟩)
    (c__law_due : PySem.W.codeIn K cd__law_due "_law_due" = true)
    (k__law_due : PySem.W.keepIn K (.ref f__law_due) = true)
    : DefsAt K mg := ⟨⟨⟨_, _, fun_mk l_is_number c_is_number k_is_number, PySem.W.mg_of X G a_is_number, (fun_mk l_is_number c_is_number k_is_number).binds (ps := ["value", "lowest", "highest"]) (fun _ _ _ _ _ _ us hl => match us, hl with | [_, _, _], _ => rfl)⟩⟩,
    ⟨⟨_, _, fun_mk l_is_rising c_is_rising k_is_rising, PySem.W.mg_of X G a_is_rising, (fun_mk l_is_rising c_is_rising k_is_rising).binds (ps := ["values"]) (fun _ _ _ _ _ _ us hl => match us, hl with | [_], _ => rfl)⟩⟩,
    ⟨⟨_, _, fun_mk l_are_signs c_are_signs k_are_signs, PySem.W.mg_of X G a_are_signs, (fun_mk l_are_signs c_are_signs k_are_signs).binds (ps := ["signs", "known"]) (fun _ _ _ _ _ _ us hl => match us, hl with | [_, _], _ => rfl)⟩⟩,
    ⟨⟨_, _, fun_mk l_are_turns c_are_turns k_are_turns, PySem.W.mg_of X G a_are_turns, (fun_mk l_are_turns c_are_turns k_are_turns).binds (ps := ["turns"]) (fun _ _ _ _ _ _ us hl => match us, hl with | [_], _ => rfl)⟩⟩,
    ⟨⟨_, _, fun_mk l_is_range c_is_range k_is_range, PySem.W.mg_of X G a_is_range, (fun_mk l_is_range c_is_range k_is_range).binds (ps := ["least", "most"]) (fun _ _ _ _ _ _ us hl => match us, hl with | [_, _], _ => rfl)⟩⟩,
    ⟨⟨_, _, fun_mk l_is_instruction c_is_instruction k_is_instruction, PySem.W.mg_of X G a_is_instruction, (fun_mk l_is_instruction c_is_instruction k_is_instruction).binds (ps := ["instruction"]) (fun _ _ _ _ _ _ us hl => match us, hl with | [_], _ => rfl)⟩⟩,
    ⟨⟨_, _, fun_mk l_checksum c_checksum k_checksum, PySem.W.mg_of X G a_checksum, (fun_mk l_checksum c_checksum k_checksum).binds (ps := ["values"]) (fun _ _ _ _ _ _ us hl => match us, hl with | [_], _ => rfl)⟩⟩,
    ⟨⟨_, _, fun_mk l_decode_map c_decode_map k_decode_map, PySem.W.mg_of X G a_decode_map, (fun_mk l_decode_map c_decode_map k_decode_map).binds (ps := ["values"]) (fun _ _ _ _ _ _ us hl => match us, hl with | [_], _ => rfl)⟩⟩,
    ⟨⟨_, _, fun_mk l__law_mix c__law_mix k__law_mix, PySem.W.mg_of X G a__law_mix, (fun_mk l__law_mix c__law_mix k__law_mix).binds (ps := ["_law_script", "_law_seed"]) (fun _ _ _ _ _ _ us hl => match us, hl with | [_, _], _ => rfl)⟩⟩,
    ⟨⟨_, _, fun_mk l__law_next c__law_next k__law_next, PySem.W.mg_of X G a__law_next, (fun_mk l__law_next c__law_next k__law_next).binds (ps := ["_law_h", "_law_limit"]) (fun _ _ _ _ _ _ us hl => match us, hl with | [_, _], _ => rfl)⟩⟩,
    ⟨⟨_, _, fun_mk l__law_alike c__law_alike k__law_alike, PySem.W.mg_of X G a__law_alike, (fun_mk l__law_alike c__law_alike k__law_alike).binds (ps := ["_law_found", "_law_due_here"]) (fun _ _ _ _ _ _ us hl => match us, hl with | [_, _], _ => rfl)⟩⟩,
    ⟨⟨_, _, fun_mk l__law_rows c__law_rows k__law_rows, PySem.W.mg_of X G a__law_rows, (fun_mk l__law_rows c__law_rows k__law_rows).binds (ps := ["_law_h", "_law_most"]) (fun _ _ _ _ _ _ us hl => match us, hl with | [_, _], _ => rfl)⟩⟩,
    ⟨⟨_, _, fun_mk l__law_sign c__law_sign k__law_sign, PySem.W.mg_of X G a__law_sign, (fun_mk l__law_sign c__law_sign k__law_sign).binds (ps := ["_law_rows_here", "_law_cell"]) (fun _ _ _ _ _ _ us hl => match us, hl with | [_, _], _ => rfl)⟩⟩,
    ⟨⟨_, _, fun_mk l__law_cells c__law_cells k__law_cells, PySem.W.mg_of X G a__law_cells, (fun_mk l__law_cells c__law_cells k__law_cells).binds (ps := ["_law_rows_here"]) (fun _ _ _ _ _ _ us hl => match us, hl with | [_], _ => rfl)⟩⟩,
    ⟨⟨_, _, fun_mk l__law_on c__law_on k__law_on, PySem.W.mg_of X G a__law_on, (fun_mk l__law_on c__law_on k__law_on).binds (ps := ["_law_cell", "_law_facing"]) (fun _ _ _ _ _ _ us hl => match us, hl with | [_, _], _ => rfl)⟩⟩,
    ⟨⟨_, _, fun_mk l__law_line c__law_line k__law_line, PySem.W.mg_of X G a__law_line, (fun_mk l__law_line c__law_line k__law_line).binds (ps := ["_law_rows_here", "_law_cell", "_law_facing"]) (fun _ _ _ _ _ _ us hl => match us, hl with | [_, _, _], _ => rfl)⟩⟩,
    ⟨⟨_, _, fun_mk l__law_shore c__law_shore k__law_shore, PySem.W.mg_of X G a__law_shore, (fun_mk l__law_shore c__law_shore k__law_shore).binds (ps := ["_law_rows_here", "_law_state", "_law_side"]) (fun _ _ _ _ _ _ us hl => match us, hl with | [_, _, _], _ => rfl)⟩⟩,
    ⟨⟨_, _, fun_mk l__law_steps c__law_steps k__law_steps, PySem.W.mg_of X G a__law_steps, (fun_mk l__law_steps c__law_steps k__law_steps).binds (ps := ["_law_rows_here", "_law_state", "_law_instruction"]) (fun _ _ _ _ _ _ us hl => match us, hl with | [_, _, _], _ => rfl)⟩⟩,
    ⟨⟨_, _, fun_mk l__law_behind c__law_behind k__law_behind, PySem.W.mg_of X G a__law_behind, (fun_mk l__law_behind c__law_behind k__law_behind).binds (ps := ["_law_rows_here", "_law_states", "_law_instruction"]) (fun _ _ _ _ _ _ us hl => match us, hl with | [_, _, _], _ => rfl)⟩⟩,
    ⟨⟨_, _, fun_mk l__law_begin c__law_begin k__law_begin, PySem.W.mg_of X G a__law_begin, (fun_mk l__law_begin c__law_begin k__law_begin).binds (ps := ["_law_drawn_here"]) (fun _ _ _ _ _ _ us hl => match us, hl with | [_], _ => rfl)⟩⟩,
    ⟨⟨_, _, fun_mk l__law_final c__law_final k__law_final, PySem.W.mg_of X G a__law_final, (fun_mk l__law_final c__law_final k__law_final).binds (ps := ["_law_drawn_here"]) (fun _ _ _ _ _ _ us hl => match us, hl with | [_], _ => rfl)⟩⟩,
    ⟨⟨_, _, fun_mk l__law_signs c__law_signs k__law_signs, PySem.W.mg_of X G a__law_signs, (fun_mk l__law_signs c__law_signs k__law_signs).binds (ps := ["_law_h", "_law_known"]) (fun _ _ _ _ _ _ us hl => match us, hl with | [_, _], _ => rfl)⟩⟩,
    ⟨⟨_, _, fun_mk l__law_turns c__law_turns k__law_turns, PySem.W.mg_of X G a__law_turns, (fun_mk l__law_turns c__law_turns k__law_turns).binds (ps := ["_law_h"]) (fun _ _ _ _ _ _ us hl => match us, hl with | [_], _ => rfl)⟩⟩,
    ⟨⟨_, _, fun_mk l__law_one c__law_one k__law_one, PySem.W.mg_of X G a__law_one, (fun_mk l__law_one c__law_one k__law_one).binds (ps := ["_law_h"]) (fun _ _ _ _ _ _ us hl => match us, hl with | [_], _ => rfl)⟩⟩,
    ⟨⟨_, _, fun_mk l__law_drawn c__law_drawn k__law_drawn, PySem.W.mg_of X G a__law_drawn, (fun_mk l__law_drawn c__law_drawn k__law_drawn).binds (ps := ["_law_h", "_law_size", "_law_most"]) (fun _ _ _ _ _ _ us hl => match us, hl with | [_, _, _], _ => rfl)⟩⟩,
    ⟨⟨_, _, fun_mk l__law_parts c__law_parts k__law_parts, PySem.W.mg_of X G a__law_parts, (fun_mk l__law_parts c__law_parts k__law_parts).binds (ps := ["_law_word"]) (fun _ _ _ _ _ _ us hl => match us, hl with | [_], _ => rfl)⟩⟩,
    ⟨⟨_, _, fun_mk l__law_heads c__law_heads k__law_heads, PySem.W.mg_of X G a__law_heads, (fun_mk l__law_heads c__law_heads k__law_heads).binds (ps := []) (fun _ _ _ _ _ _ us hl => match us, hl with | [], _ => rfl)⟩⟩,
    ⟨⟨_, _, fun_mk l__law_wrong_index c__law_wrong_index k__law_wrong_index, PySem.W.mg_of X G a__law_wrong_index, (fun_mk l__law_wrong_index c__law_wrong_index k__law_wrong_index).binds (ps := ["_law_drawn_here"]) (fun _ _ _ _ _ _ us hl => match us, hl with | [_], _ => rfl)⟩⟩,
    ⟨⟨_, _, fun_mk l__law_signs_code c__law_signs_code k__law_signs_code, PySem.W.mg_of X G a__law_signs_code, (fun_mk l__law_signs_code c__law_signs_code k__law_signs_code).binds (ps := ["_law_signs_here"]) (fun _ _ _ _ _ _ us hl => match us, hl with | [_], _ => rfl)⟩⟩,
    ⟨⟨_, _, fun_mk l__law_sum c__law_sum k__law_sum, PySem.W.mg_of X G a__law_sum, (fun_mk l__law_sum c__law_sum k__law_sum).binds (ps := ["_law_values"]) (fun _ _ _ _ _ _ us hl => match us, hl with | [_], _ => rfl)⟩⟩,
    ⟨⟨_, _, fun_mk l__law_code c__law_code k__law_code, PySem.W.mg_of X G a__law_code, (fun_mk l__law_code c__law_code k__law_code).binds (ps := ["_law_drawn_here"]) (fun _ _ _ _ _ _ us hl => match us, hl with | [_], _ => rfl)⟩⟩,
    ⟨⟨_, _, fun_mk l__law_pull c__law_pull k__law_pull, PySem.W.mg_of X G a__law_pull, (fun_mk l__law_pull c__law_pull k__law_pull).binds (ps := ["_law_values", "_law_state", "_law_low", "_law_high"]) (fun _ _ _ _ _ _ us hl => match us, hl with | [_, _, _, _], _ => rfl)⟩⟩,
    ⟨⟨_, _, fun_mk l__law_pull_signs c__law_pull_signs k__law_pull_signs, PySem.W.mg_of X G a__law_pull_signs, (fun_mk l__law_pull_signs c__law_pull_signs k__law_pull_signs).binds (ps := ["_law_values", "_law_state", "_law_many"]) (fun _ _ _ _ _ _ us hl => match us, hl with | [_, _, _], _ => rfl)⟩⟩,
    ⟨⟨_, _, fun_mk l__law_pull_turns c__law_pull_turns k__law_pull_turns, PySem.W.mg_of X G a__law_pull_turns, (fun_mk l__law_pull_turns c__law_pull_turns k__law_pull_turns).binds (ps := ["_law_values", "_law_state"]) (fun _ _ _ _ _ _ us hl => match us, hl with | [_, _], _ => rfl)⟩⟩,
    ⟨⟨_, _, fun_mk l__law_decoded c__law_decoded k__law_decoded, PySem.W.mg_of X G a__law_decoded, (fun_mk l__law_decoded c__law_decoded k__law_decoded).binds (ps := ["_law_values"]) (fun _ _ _ _ _ _ us hl => match us, hl with | [_], _ => rfl)⟩⟩,
    ⟨⟨_, _, fun_mk l__law_wrong_signs c__law_wrong_signs k__law_wrong_signs, PySem.W.mg_of X G a__law_wrong_signs, (fun_mk l__law_wrong_signs c__law_wrong_signs k__law_wrong_signs).binds (ps := ["_law_signs_here", "_law_water"]) (fun _ _ _ _ _ _ us hl => match us, hl with | [_, _], _ => rfl)⟩⟩,
    ⟨⟨_, _, fun_mk l__law_seen c__law_seen k__law_seen, PySem.W.mg_of X G a__law_seen, (fun_mk l__law_seen c__law_seen k__law_seen).binds (ps := ["_law_values"]) (fun _ _ _ _ _ _ us hl => match us, hl with | [_], _ => rfl)⟩⟩,
    ⟨⟨_, _, fun_mk l__law_due c__law_due k__law_due, PySem.W.mg_of X G a__law_due, (fun_mk l__law_due c__law_due k__law_due).binds (ps := ["_law_told"]) (fun _ _ _ _ _ _ us hl => match us, hl with | [_], _ => rfl)⟩⟩⟩
open KwX in
set_option maxHeartbeats 0 in
theorem z_M {P : Program} {w : World} {K : PySem.W.Frag} {h : Heap} {mg : Str → Option Value} (X : K.In h) (G : h.Ns mainGlobals mg)
    {C : Addr} {CM : Addr} {CI : Addr} {f_Island_init : Addr} {oc_Island_init : Value} {kV_Island_init : Value} {dc_Island_init : Value} {pm_Island_init : Value} {cd_Island_init : Value} {ct_Island_init : Value} {od_Island_init : Option Addr} {an_Island_init : Option Addr} {sl_Island_init : Array (Option Value)} {f_Map_init : Addr} {oc_Map_init : Value} {kV_Map_init : Value} {dc_Map_init : Value} {pm_Map_init : Value} {cd_Map_init : Value} {ct_Map_init : Value} {od_Map_init : Option Addr} {an_Map_init : Option Addr} {sl_Map_init : Array (Option Value)} {f_Reader_init : Addr} {oc_Reader_init : Value} {kV_Reader_init : Value} {dc_Reader_init : Value} {pm_Reader_init : Value} {cd_Reader_init : Value} {ct_Reader_init : Value} {od_Reader_init : Option Addr} {an_Reader_init : Option Addr} {sl_Reader_init : Array (Option Value)} {f_Reader_take : Addr} {oc_Reader_take : Value} {kV_Reader_take : Value} {dc_Reader_take : Value} {pm_Reader_take : Value} {cd_Reader_take : Value} {ct_Reader_take : Value} {od_Reader_take : Option Addr} {an_Reader_take : Option Addr} {sl_Reader_take : Array (Option Value)} {f_Reader_take_signs : Addr} {oc_Reader_take_signs : Value} {kV_Reader_take_signs : Value} {dc_Reader_take_signs : Value} {pm_Reader_take_signs : Value} {cd_Reader_take_signs : Value} {ct_Reader_take_signs : Value} {od_Reader_take_signs : Option Addr} {an_Reader_take_signs : Option Addr} {sl_Reader_take_signs : Array (Option Value)} {f_Reader_take_turns : Addr} {oc_Reader_take_turns : Value} {kV_Reader_take_turns : Value} {dc_Reader_take_turns : Value} {pm_Reader_take_turns : Value} {cd_Reader_take_turns : Value} {ct_Reader_take_turns : Value} {od_Reader_take_turns : Option Addr} {an_Reader_take_turns : Option Addr} {sl_Reader_take_turns : Array (Option Value)} {f_Reader_take_instruction : Addr} {oc_Reader_take_instruction : Value} {kV_Reader_take_instruction : Value} {dc_Reader_take_instruction : Value} {pm_Reader_take_instruction : Value} {cd_Reader_take_instruction : Value} {ct_Reader_take_instruction : Value} {od_Reader_take_instruction : Option Addr} {an_Reader_take_instruction : Option Addr} {sl_Reader_take_instruction : Array (Option Value)} {q_Map_island : Addr} {f_Map_island : Addr} {r_Map_island : List Value} {oc_Map_island : Value} {kV_Map_island : Value} {dc_Map_island : Value} {pm_Map_island : Value} {cd_Map_island : Value} {ct_Map_island : Value} {od_Map_island : Option Addr} {an_Map_island : Option Addr} {sl_Map_island : Array (Option Value)} {q_Map_signs : Addr} {f_Map_signs : Addr} {r_Map_signs : List Value} {oc_Map_signs : Value} {kV_Map_signs : Value} {dc_Map_signs : Value} {pm_Map_signs : Value} {cd_Map_signs : Value} {ct_Map_signs : Value} {od_Map_signs : Option Addr} {an_Map_signs : Option Addr} {sl_Map_signs : Array (Option Value)} {q_Map_facings : Addr} {f_Map_facings : Addr} {r_Map_facings : List Value} {oc_Map_facings : Value} {kV_Map_facings : Value} {dc_Map_facings : Value} {pm_Map_facings : Value} {cd_Map_facings : Value} {ct_Map_facings : Value} {od_Map_facings : Option Addr} {an_Map_facings : Option Addr} {sl_Map_facings : Array (Option Value)} {q_Map_instructions : Addr} {f_Map_instructions : Addr} {r_Map_instructions : List Value} {oc_Map_instructions : Value} {kV_Map_instructions : Value} {dc_Map_instructions : Value} {pm_Map_instructions : Value} {cd_Map_instructions : Value} {ct_Map_instructions : Value} {od_Map_instructions : Option Addr} {an_Map_instructions : Option Addr} {sl_Map_instructions : Array (Option Value)} {q_Island_rows : Addr} {f_Island_rows : Addr} {r_Island_rows : List Value} {oc_Island_rows : Value} {kV_Island_rows : Value} {dc_Island_rows : Value} {pm_Island_rows : Value} {cd_Island_rows : Value} {ct_Island_rows : Value} {od_Island_rows : Option Addr} {an_Island_rows : Option Addr} {sl_Island_rows : Array (Option Value)}
    (a_Island_init : PySem.W.findIn K (.ref CI) "__init__" = some (some (.ref f_Island_init)))
    (i_Island_init : PySem.W.isFn K (.ref f_Island_init) = true)
    (l_Island_init : K.lookup f_Island_init = some ⟨oc_Island_init, od_Island_init, .func (PySem.W.fnOf "__init__" "Island.__init__" (defArgs s_Island_init) (defBody s_Island_init) (defScope s_Island_init) .none kV_Island_init dc_Island_init pm_Island_init an_Island_init cd_Island_init ct_Island_init), sl_Island_init⟩)
    (c_Island_init : PySem.W.codeIn K cd_Island_init "Island.__init__" = true)
    (k_Island_init : PySem.W.keepIn K (.ref f_Island_init) = true)
    (a_Map_init : PySem.W.findIn K (.ref CM) "__init__" = some (some (.ref f_Map_init)))
    (i_Map_init : PySem.W.isFn K (.ref f_Map_init) = true)
    (l_Map_init : K.lookup f_Map_init = some ⟨oc_Map_init, od_Map_init, .func (PySem.W.fnOf "__init__" "Map.__init__" (defArgs s_Map_init) (defBody s_Map_init) (defScope s_Map_init) .none kV_Map_init dc_Map_init pm_Map_init an_Map_init cd_Map_init ct_Map_init), sl_Map_init⟩)
    (c_Map_init : PySem.W.codeIn K cd_Map_init "Map.__init__" = true)
    (k_Map_init : PySem.W.keepIn K (.ref f_Map_init) = true)
    (a_Reader_init : PySem.W.findIn K (.ref C) "__init__" = some (some (.ref f_Reader_init)))
    (i_Reader_init : PySem.W.isFn K (.ref f_Reader_init) = true)
    (l_Reader_init : K.lookup f_Reader_init = some ⟨oc_Reader_init, od_Reader_init, .func (PySem.W.fnOf "__init__" "Reader.__init__" (defArgs s_Reader_init) (defBody s_Reader_init) (defScope s_Reader_init) .none kV_Reader_init dc_Reader_init pm_Reader_init an_Reader_init cd_Reader_init ct_Reader_init), sl_Reader_init⟩)
    (c_Reader_init : PySem.W.codeIn K cd_Reader_init "Reader.__init__" = true)
    (k_Reader_init : PySem.W.keepIn K (.ref f_Reader_init) = true)
    (a_Reader_take : PySem.W.findIn K (.ref C) "take" = some (some (.ref f_Reader_take)))
    (i_Reader_take : PySem.W.isFn K (.ref f_Reader_take) = true)
    (l_Reader_take : K.lookup f_Reader_take = some ⟨oc_Reader_take, od_Reader_take, .func (PySem.W.fnOf "take" "Reader.take" (defArgs s_Reader_take) (defBody s_Reader_take) (defScope s_Reader_take) .none kV_Reader_take dc_Reader_take pm_Reader_take an_Reader_take cd_Reader_take ct_Reader_take), sl_Reader_take⟩)
    (c_Reader_take : PySem.W.codeIn K cd_Reader_take "Reader.take" = true)
    (k_Reader_take : PySem.W.keepIn K (.ref f_Reader_take) = true)
    (a_Reader_take_signs : PySem.W.findIn K (.ref C) "take_signs" = some (some (.ref f_Reader_take_signs)))
    (i_Reader_take_signs : PySem.W.isFn K (.ref f_Reader_take_signs) = true)
    (l_Reader_take_signs : K.lookup f_Reader_take_signs = some ⟨oc_Reader_take_signs, od_Reader_take_signs, .func (PySem.W.fnOf "take_signs" "Reader.take_signs" (defArgs s_Reader_take_signs) (defBody s_Reader_take_signs) (defScope s_Reader_take_signs) .none kV_Reader_take_signs dc_Reader_take_signs pm_Reader_take_signs an_Reader_take_signs cd_Reader_take_signs ct_Reader_take_signs), sl_Reader_take_signs⟩)
    (c_Reader_take_signs : PySem.W.codeIn K cd_Reader_take_signs "Reader.take_signs" = true)
    (k_Reader_take_signs : PySem.W.keepIn K (.ref f_Reader_take_signs) = true)
    (a_Reader_take_turns : PySem.W.findIn K (.ref C) "take_turns" = some (some (.ref f_Reader_take_turns)))
    (i_Reader_take_turns : PySem.W.isFn K (.ref f_Reader_take_turns) = true)
    (l_Reader_take_turns : K.lookup f_Reader_take_turns = some ⟨oc_Reader_take_turns, od_Reader_take_turns, .func (PySem.W.fnOf "take_turns" "Reader.take_turns" (defArgs s_Reader_take_turns) (defBody s_Reader_take_turns) (defScope s_Reader_take_turns) .none kV_Reader_take_turns dc_Reader_take_turns pm_Reader_take_turns an_Reader_take_turns cd_Reader_take_turns ct_Reader_take_turns), sl_Reader_take_turns⟩)
    (c_Reader_take_turns : PySem.W.codeIn K cd_Reader_take_turns "Reader.take_turns" = true)
    (k_Reader_take_turns : PySem.W.keepIn K (.ref f_Reader_take_turns) = true)
    (a_Reader_take_instruction : PySem.W.findIn K (.ref C) "take_instruction" = some (some (.ref f_Reader_take_instruction)))
    (i_Reader_take_instruction : PySem.W.isFn K (.ref f_Reader_take_instruction) = true)
    (l_Reader_take_instruction : K.lookup f_Reader_take_instruction = some ⟨oc_Reader_take_instruction, od_Reader_take_instruction, .func (PySem.W.fnOf "take_instruction" "Reader.take_instruction" (defArgs s_Reader_take_instruction) (defBody s_Reader_take_instruction) (defScope s_Reader_take_instruction) .none kV_Reader_take_instruction dc_Reader_take_instruction pm_Reader_take_instruction an_Reader_take_instruction cd_Reader_take_instruction ct_Reader_take_instruction), sl_Reader_take_instruction⟩)
    (c_Reader_take_instruction : PySem.W.codeIn K cd_Reader_take_instruction "Reader.take_instruction" = true)
    (k_Reader_take_instruction : PySem.W.keepIn K (.ref f_Reader_take_instruction) = true)
    (a_Map_island : PySem.W.findIn K (.ref CM) "island" = some (some (.ref q_Map_island)))
    (g_Map_island : PySem.W.specialIn K (.ref q_Map_island) "__get__" = some (some (.builtin "property.__get__")))
    (t_Map_island : PySem.W.takesIn K (.ref q_Map_island) = some true)
    (r1_Map_island : PySem.W.recIn K q_Map_island "property" = some (.ref f_Map_island :: r_Map_island))
    (l_Map_island : K.lookup f_Map_island = some ⟨oc_Map_island, od_Map_island, .func (PySem.W.fnOf "island" "Map.island" (defArgs s_Map_island) (defBody s_Map_island) (defScope s_Map_island) .none kV_Map_island dc_Map_island pm_Map_island an_Map_island cd_Map_island ct_Map_island), sl_Map_island⟩)
    (c_Map_island : PySem.W.codeIn K cd_Map_island "Map.island" = true)
    (k_Map_island : PySem.W.keepIn K (.ref f_Map_island) = true)
    (a_Map_signs : PySem.W.findIn K (.ref CM) "signs" = some (some (.ref q_Map_signs)))
    (g_Map_signs : PySem.W.specialIn K (.ref q_Map_signs) "__get__" = some (some (.builtin "property.__get__")))
    (t_Map_signs : PySem.W.takesIn K (.ref q_Map_signs) = some true)
    (r1_Map_signs : PySem.W.recIn K q_Map_signs "property" = some (.ref f_Map_signs :: r_Map_signs))
    (l_Map_signs : K.lookup f_Map_signs = some ⟨oc_Map_signs, od_Map_signs, .func (PySem.W.fnOf "signs" "Map.signs" (defArgs s_Map_signs) (defBody s_Map_signs) (defScope s_Map_signs) .none kV_Map_signs dc_Map_signs pm_Map_signs an_Map_signs cd_Map_signs ct_Map_signs), sl_Map_signs⟩)
    (c_Map_signs : PySem.W.codeIn K cd_Map_signs "Map.signs" = true)
    (k_Map_signs : PySem.W.keepIn K (.ref f_Map_signs) = true)
    (a_Map_facings : PySem.W.findIn K (.ref CM) "facings" = some (some (.ref q_Map_facings)))
    (g_Map_facings : PySem.W.specialIn K (.ref q_Map_facings) "__get__" = some (some (.builtin "property.__get__")))
    (t_Map_facings : PySem.W.takesIn K (.ref q_Map_facings) = some true)
    (r1_Map_facings : PySem.W.recIn K q_Map_facings "property" = some (.ref f_Map_facings :: r_Map_facings))
    (l_Map_facings : K.lookup f_Map_facings = some ⟨oc_Map_facings, od_Map_facings, .func (PySem.W.fnOf "facings" "Map.facings" (defArgs s_Map_facings) (defBody s_Map_facings) (defScope s_Map_facings) .none kV_Map_facings dc_Map_facings pm_Map_facings an_Map_facings cd_Map_facings ct_Map_facings), sl_Map_facings⟩)
    (c_Map_facings : PySem.W.codeIn K cd_Map_facings "Map.facings" = true)
    (k_Map_facings : PySem.W.keepIn K (.ref f_Map_facings) = true)
    (a_Map_instructions : PySem.W.findIn K (.ref CM) "instructions" = some (some (.ref q_Map_instructions)))
    (g_Map_instructions : PySem.W.specialIn K (.ref q_Map_instructions) "__get__" = some (some (.builtin "property.__get__")))
    (t_Map_instructions : PySem.W.takesIn K (.ref q_Map_instructions) = some true)
    (r1_Map_instructions : PySem.W.recIn K q_Map_instructions "property" = some (.ref f_Map_instructions :: r_Map_instructions))
    (l_Map_instructions : K.lookup f_Map_instructions = some ⟨oc_Map_instructions, od_Map_instructions, .func (PySem.W.fnOf "instructions" "Map.instructions" (defArgs s_Map_instructions) (defBody s_Map_instructions) (defScope s_Map_instructions) .none kV_Map_instructions dc_Map_instructions pm_Map_instructions an_Map_instructions cd_Map_instructions ct_Map_instructions), sl_Map_instructions⟩)
    (c_Map_instructions : PySem.W.codeIn K cd_Map_instructions "Map.instructions" = true)
    (k_Map_instructions : PySem.W.keepIn K (.ref f_Map_instructions) = true)
    (a_Island_rows : PySem.W.findIn K (.ref CI) "rows" = some (some (.ref q_Island_rows)))
    (g_Island_rows : PySem.W.specialIn K (.ref q_Island_rows) "__get__" = some (some (.builtin "property.__get__")))
    (t_Island_rows : PySem.W.takesIn K (.ref q_Island_rows) = some true)
    (r1_Island_rows : PySem.W.recIn K q_Island_rows "property" = some (.ref f_Island_rows :: r_Island_rows))
    (l_Island_rows : K.lookup f_Island_rows = some ⟨oc_Island_rows, od_Island_rows, .func (PySem.W.fnOf "rows" "Island.rows" (defArgs s_Island_rows) (defBody s_Island_rows) (defScope s_Island_rows) .none kV_Island_rows dc_Island_rows pm_Island_rows an_Island_rows cd_Island_rows ct_Island_rows), sl_Island_rows⟩)
    (c_Island_rows : PySem.W.codeIn K cd_Island_rows "Island.rows" = true)
    (k_Island_rows : PySem.W.keepIn K (.ref f_Island_rows) = true)
    : MetsAt K C CM CI := ⟨⟨⟨_, _, fun_mk l_Island_init c_Island_init k_Island_init, ⟨a_Island_init, i_Island_init, k_Island_init⟩, (fun_mk l_Island_init c_Island_init k_Island_init).binds (ps := ["self", "rows"]) (fun _ _ _ _ _ _ us hl => match us, hl with | [_, _], _ => rfl)⟩⟩,
    ⟨⟨_, _, fun_mk l_Map_init c_Map_init k_Map_init, ⟨a_Map_init, i_Map_init, k_Map_init⟩, (fun_mk l_Map_init c_Map_init k_Map_init).binds (ps := ["self", "island", "signs", "facings", "instructions"]) (fun _ _ _ _ _ _ us hl => match us, hl with | [_, _, _, _, _], _ => rfl)⟩⟩,
    ⟨⟨_, _, fun_mk l_Reader_init c_Reader_init k_Reader_init, ⟨a_Reader_init, i_Reader_init, k_Reader_init⟩, (fun_mk l_Reader_init c_Reader_init k_Reader_init).binds (ps := ["self", "values"]) (fun _ _ _ _ _ _ us hl => match us, hl with | [_, _], _ => rfl)⟩⟩,
    ⟨⟨_, _, fun_mk l_Reader_take c_Reader_take k_Reader_take, ⟨a_Reader_take, i_Reader_take, k_Reader_take⟩, (fun_mk l_Reader_take c_Reader_take k_Reader_take).binds (ps := ["self", "smallest", "largest"]) (fun _ _ _ _ _ _ us hl => match us, hl with | [_, _, _], _ => rfl)⟩⟩,
    ⟨⟨_, _, fun_mk l_Reader_take_signs c_Reader_take_signs k_Reader_take_signs, ⟨a_Reader_take_signs, i_Reader_take_signs, k_Reader_take_signs⟩, (fun_mk l_Reader_take_signs c_Reader_take_signs k_Reader_take_signs).binds (ps := ["self"]) (fun _ _ _ _ _ _ us hl => match us, hl with | [_], _ => rfl)⟩⟩,
    ⟨⟨_, _, fun_mk l_Reader_take_turns c_Reader_take_turns k_Reader_take_turns, ⟨a_Reader_take_turns, i_Reader_take_turns, k_Reader_take_turns⟩, (fun_mk l_Reader_take_turns c_Reader_take_turns k_Reader_take_turns).binds (ps := ["self"]) (fun _ _ _ _ _ _ us hl => match us, hl with | [_], _ => rfl)⟩⟩,
    ⟨⟨_, _, fun_mk l_Reader_take_instruction c_Reader_take_instruction k_Reader_take_instruction, ⟨a_Reader_take_instruction, i_Reader_take_instruction, k_Reader_take_instruction⟩, (fun_mk l_Reader_take_instruction c_Reader_take_instruction k_Reader_take_instruction).binds (ps := ["self"]) (fun _ _ _ _ _ _ us hl => match us, hl with | [_], _ => rfl)⟩⟩,
    ⟨⟨_, _, _, ⟨a_Map_island, g_Map_island, t_Map_island, _, r1_Map_island⟩, fun_mk l_Map_island c_Map_island k_Map_island, (fun_mk l_Map_island c_Map_island k_Map_island).binds (ps := ["self"]) (fun _ _ _ _ _ _ us hl => match us, hl with | [_], _ => rfl)⟩⟩,
    ⟨⟨_, _, _, ⟨a_Map_signs, g_Map_signs, t_Map_signs, _, r1_Map_signs⟩, fun_mk l_Map_signs c_Map_signs k_Map_signs, (fun_mk l_Map_signs c_Map_signs k_Map_signs).binds (ps := ["self"]) (fun _ _ _ _ _ _ us hl => match us, hl with | [_], _ => rfl)⟩⟩,
    ⟨⟨_, _, _, ⟨a_Map_facings, g_Map_facings, t_Map_facings, _, r1_Map_facings⟩, fun_mk l_Map_facings c_Map_facings k_Map_facings, (fun_mk l_Map_facings c_Map_facings k_Map_facings).binds (ps := ["self"]) (fun _ _ _ _ _ _ us hl => match us, hl with | [_], _ => rfl)⟩⟩,
    ⟨⟨_, _, _, ⟨a_Map_instructions, g_Map_instructions, t_Map_instructions, _, r1_Map_instructions⟩, fun_mk l_Map_instructions c_Map_instructions k_Map_instructions, (fun_mk l_Map_instructions c_Map_instructions k_Map_instructions).binds (ps := ["self"]) (fun _ _ _ _ _ _ us hl => match us, hl with | [_], _ => rfl)⟩⟩,
    ⟨⟨_, _, _, ⟨a_Island_rows, g_Island_rows, t_Island_rows, _, r1_Island_rows⟩, fun_mk l_Island_rows c_Island_rows k_Island_rows, (fun_mk l_Island_rows c_Island_rows k_Island_rows).binds (ps := ["self"]) (fun _ _ _ _ _ _ us hl => match us, hl with | [_], _ => rfl)⟩⟩⟩
open KwX in
set_option maxHeartbeats 0 in
theorem z_U {P : Program} {w : World} {K : PySem.W.Frag} {h : Heap} {mg : Str → Option Value} (X : K.In h) (G : h.Ns mainGlobals mg)
    {t_CHECK : Tok} {t_MAX_PACES : Tok}
    (z_len : PySem.W.nsIn K mainGlobals "len" = some none)
    (z_int : PySem.W.nsIn K mainGlobals "int" = some none)
    (z_bool : PySem.W.nsIn K mainGlobals "bool" = some none)
    (z_dict : PySem.W.nsIn K mainGlobals "dict" = some none)
    (z_tuple : PySem.W.nsIn K mainGlobals "tuple" = some none)
    (z_list : PySem.W.nsIn K mainGlobals "list" = some none)
    (z_str : PySem.W.nsIn K mainGlobals "str" = some none)
    (z_isinstance : PySem.W.nsIn K mainGlobals "isinstance" = some none)
    (z_range : PySem.W.nsIn K mainGlobals "range" = some none)
    (z_max : PySem.W.nsIn K mainGlobals "max" = some none)
    (z_min : PySem.W.nsIn K mainGlobals "min" = some none)
    (z_abs : PySem.W.nsIn K mainGlobals "abs" = some none)
    (z_zip : PySem.W.nsIn K mainGlobals "zip" = some none)
    (z_all : PySem.W.nsIn K mainGlobals "all" = some none)
    (z_enumerate : PySem.W.nsIn K mainGlobals "enumerate" = some none)
    (z_sorted : PySem.W.nsIn K mainGlobals "sorted" = some none)
    (z_set : PySem.W.nsIn K mainGlobals "set" = some none)
    (n_CHECK : PySem.W.nsIn K mainGlobals "CHECK" = some (some (.int 241 t_CHECK)))
    (n_MAX_PACES : PySem.W.nsIn K mainGlobals "MAX_PACES" = some (some (.int 20 t_MAX_PACES)))
    : Txt K mg := ⟨PySem.W.mg_none_of X G z_len, PySem.W.mg_none_of X G z_int, PySem.W.mg_none_of X G z_bool, PySem.W.mg_none_of X G z_dict, PySem.W.mg_none_of X G z_tuple, PySem.W.mg_none_of X G z_list, PySem.W.mg_none_of X G z_str, PySem.W.mg_none_of X G z_isinstance, PySem.W.mg_none_of X G z_range, PySem.W.mg_none_of X G z_max, PySem.W.mg_none_of X G z_min, PySem.W.mg_none_of X G z_abs, PySem.W.mg_none_of X G z_zip, PySem.W.mg_none_of X G z_all, PySem.W.mg_none_of X G z_enumerate, PySem.W.mg_none_of X G z_sorted, PySem.W.mg_none_of X G z_set, ⟨_, PySem.W.mg_of X G n_CHECK, ⟨_, rfl⟩⟩, ⟨_, PySem.W.mg_of X G n_MAX_PACES, ⟨_, rfl⟩⟩⟩
open KwX in
set_option maxHeartbeats 0 in
theorem z_Q {P : Program} {w : World} {K : PySem.W.Frag} {h : Heap} {mg : Str → Option Value} (X : K.In h) (G : h.Ns mainGlobals mg)
    {t_MAX_SIZE : Tok} {t_MAX_FAR : Tok} {t_RIGHT : Tok} {t_LEFT : Tok} {t_MAX_INSTRUCTIONS : Tok} {t_FIRST : Tok} {t_MAX_CODE : Tok} {t_LAND : Tok} {t_WATER : Tok} {t_LETTERS : Tok} {t_SIGNS : Tok} {t_TURN : Tok} {t_WALK : Tok} {t_UNTIL : Tok} {t_TOWARD : Tok} {t_BESIDE : Tok} {t_NEAR : Tok}
    (U : Txt K mg)
    (n_MAX_SIZE : PySem.W.nsIn K mainGlobals "MAX_SIZE" = some (some (.int 12 t_MAX_SIZE)))
    (n_MAX_FAR : PySem.W.nsIn K mainGlobals "MAX_FAR" = some (some (.int 22 t_MAX_FAR)))
    (n_RIGHT : PySem.W.nsIn K mainGlobals "RIGHT" = some (some (.int 1 t_RIGHT)))
    (n_LEFT : PySem.W.nsIn K mainGlobals "LEFT" = some (some (.int 3 t_LEFT)))
    (n_MAX_INSTRUCTIONS : PySem.W.nsIn K mainGlobals "MAX_INSTRUCTIONS" = some (some (.int 20 t_MAX_INSTRUCTIONS)))
    (n_FIRST : PySem.W.nsIn K mainGlobals "FIRST" = some (some (.int 79 t_FIRST)))
    (n_MAX_CODE : PySem.W.nsIn K mainGlobals "MAX_CODE" = some (some (.int 99 t_MAX_CODE)))
    (n_LAND : PySem.W.nsIn K mainGlobals "LAND" = some (some (.str "." t_LAND)))
    (n_WATER : PySem.W.nsIn K mainGlobals "WATER" = some (some (.str "~" t_WATER)))
    (n_LETTERS : PySem.W.nsIn K mainGlobals "LETTERS" = some (some (.str "ABCDEFGHIJKLMNOPQRSTUVWXYZ" t_LETTERS)))
    (n_SIGNS : PySem.W.nsIn K mainGlobals "SIGNS" = some (some (.str ".~ABCDEFGHIJKLMNOPQRSTUVWXYZ" t_SIGNS)))
    (n_TURN : PySem.W.nsIn K mainGlobals "TURN" = some (some (.str "turn" t_TURN)))
    (n_WALK : PySem.W.nsIn K mainGlobals "WALK" = some (some (.str "walk" t_WALK)))
    (n_UNTIL : PySem.W.nsIn K mainGlobals "UNTIL" = some (some (.str "until" t_UNTIL)))
    (n_TOWARD : PySem.W.nsIn K mainGlobals "TOWARD" = some (some (.str "toward" t_TOWARD)))
    (n_BESIDE : PySem.W.nsIn K mainGlobals "BESIDE" = some (some (.str "beside" t_BESIDE)))
    (n_NEAR : PySem.W.nsIn K mainGlobals "NEAR" = some (some (.str "near" t_NEAR)))
    : PTxt K mg := { U with LAND := ⟨_, PySem.W.mg_of X G n_LAND, ⟨_, rfl⟩⟩, WATER := ⟨_, PySem.W.mg_of X G n_WATER, ⟨_, rfl⟩⟩, LETTERS := ⟨_, PySem.W.mg_of X G n_LETTERS, ⟨_, rfl⟩⟩, SIGNS := ⟨_, PySem.W.mg_of X G n_SIGNS, ⟨_, rfl⟩⟩, MAX_SIZE := ⟨_, PySem.W.mg_of X G n_MAX_SIZE, ⟨_, rfl⟩⟩, TURN := ⟨_, PySem.W.mg_of X G n_TURN, ⟨_, rfl⟩⟩, WALK := ⟨_, PySem.W.mg_of X G n_WALK, ⟨_, rfl⟩⟩, UNTIL := ⟨_, PySem.W.mg_of X G n_UNTIL, ⟨_, rfl⟩⟩, TOWARD := ⟨_, PySem.W.mg_of X G n_TOWARD, ⟨_, rfl⟩⟩, BESIDE := ⟨_, PySem.W.mg_of X G n_BESIDE, ⟨_, rfl⟩⟩, NEAR := ⟨_, PySem.W.mg_of X G n_NEAR, ⟨_, rfl⟩⟩, MAX_FAR := ⟨_, PySem.W.mg_of X G n_MAX_FAR, ⟨_, rfl⟩⟩, RIGHT := ⟨_, PySem.W.mg_of X G n_RIGHT, ⟨_, rfl⟩⟩, LEFT := ⟨_, PySem.W.mg_of X G n_LEFT, ⟨_, rfl⟩⟩, MAX_INSTRUCTIONS := ⟨_, PySem.W.mg_of X G n_MAX_INSTRUCTIONS, ⟨_, rfl⟩⟩, FIRST := ⟨_, PySem.W.mg_of X G n_FIRST, ⟨_, rfl⟩⟩, MAX_CODE := ⟨_, PySem.W.mg_of X G n_MAX_CODE, ⟨_, rfl⟩⟩ }
open KwX in
set_option maxHeartbeats 0 in
theorem z_TD {P : Program} {w : World} {K : PySem.W.Frag} {h : Heap} {mg : Str → Option Value} (X : K.In h) (G : h.Ns mainGlobals mg)
    {CD : Addr} {xND : Addr} {fI_D : Addr} {xcdaD : Addr} {xccD : Addr} {xnmD : Str} {xqD : Str} {xbsD : List Value} {xbmD : List Value} {xsubD : List Value} {xsnD : List Str} {xabD : Bool} {xcolD : Option Bool} {xddD : Option Addr} {xodD : Option Addr} {xanD : Option Addr} {xcldD : Option Addr} {xcddD : Option Addr} {xk0D : Option Value} {xk1D : Option Value} {xk2D : Option Value} {xk3D : Option Value} {xk5D : Option Value} {xocD : Value} {xdocD : Value} {xpmD : Value} {xctD : Value} {xcclD : Value} {xclD : Value} {xoslD : Array (Option Value)} {xccsD : Array (Option Value)} {xcslD : Array (Option Value)} {xvsD : Array Value} {xfileD : Str} {xtfD : Tok}
    (a_CD : PySem.W.nsIn K mainGlobals "DecodeError" = some (some (.ref CD)))
    (z_super : PySem.W.nsIn K mainGlobals "super" = some none)
    (x1D : K.lookup CD = some (excClassObj xnmD xqD CD xND xbsD xbmD true xsnD xsubD xabD xcolD xddD xk0D xk1D xk2D xk3D xk5D "ValueError.__new__"))
    (x2D : PySem.HandSPX.refsVE xbmD = true)
    (x3D : PySem.W.findIn K (.ref CD) "__setattr__" = some (some (.builtin "object.__setattr__")))
    (x4D : PySem.W.findIn K (.ref CD) "offset" = some none)
    (x5D : PySem.W.findIn K (.ref CD) "__init__" = some (some (.ref fI_D)))
    (x6D : PySem.W.typeIn K (.ref fI_D) = some (.type "function"))
    (x7D : PySem.W.keepIn K (.ref CD) = true)
    (x8D : PySem.W.subIn K (.ref CD) (.type "BaseException") = some true)
    (x9D : PySem.W.typeIn K (.ref CD) = some (.type "type"))
    (x10D : PySem.W.subIn K (.ref CD) (.type "ValueError") = some true)
    (x12D : PySem.W.ks_superIn K CD CD "__init__" = some (some (.builtin "ValueError.__init__")))
    (x13D : PySem.W.mroIn K CD (.ref CD) = some true)
    (x14D : K.lookup fI_D = some ⟨xocD, xodD, .func (PySem.W.ksFn "__init__" "DecodeError.__init__" (defArgs s_dec) (defBody s_dec) (defScope s_dec) .none .none xdocD xpmD xanD (.ref xcdaD) xctD xccD), xoslD⟩)
    (x15D : PySem.W.codeIn K (.ref xcdaD) "DecodeError.__init__" = true)
    (x16D : K.lookup xcdaD = some ⟨xcclD, xcddD, .fields xvsD, xccsD⟩)
    (x17D : xvsD[2]? = some (.str xfileD xtfD))
    (x18D : ((P.main.file : Str) == xfileD) = true)
    (x19D : K.lookup xccD = some ⟨xclD, xcldD, .cell (some (.ref CD)), xcslD⟩)
    (opq : PySem.W.nsIn K cStatics "thirdparty.any" = some none)
    (top_ : (P.main.scope.names.lookup ("super" : Str)).isSome = false)
    : KwT P K mg s_dec "DecodeError" "DecodeError.__init__" "a code is malformed" "offset" CD fI_D := ⟨PySem.W.mg_of X G a_CD, ⟨_, _, _, _, _, _, _, _, _, _, _, _, _, _, _, x1D, x2D⟩, x3D, x4D, x5D, x6D, x7D, x8D, x9D, x10D, opq, x12D, x13D, PySem.W.mg_none_of X G z_super, top_, ⟨_, _, _, _, _, _, _, _, _, _, _, _, _, _, _, _, _, _, x14D, x15D, x16D, x17D, x18D, x19D⟩⟩
open KwX in
set_option maxHeartbeats 0 in
theorem z_ED {P : Program} {w : World} {K : PySem.W.Frag} {h : Heap} {mg : Str → Option Value} (X : K.In h) (G : h.Ns mainGlobals mg)
    {CD : Addr}
    (x8D : PySem.W.subIn K (.ref CD) (.type "BaseException") = some true)
    (x20D : PySem.W.findIn K (.ref CD) "__getattribute__" = some (some (.builtin "BaseException.__getattribute__")))
    (x21D : PySem.W.findIn K (.ref CD) "__getattr__" = some none)
    (x22D : PySem.W.findIn K (.ref CD) "__class__" = some (some (.builtin "object.__class__")))
    (x23D : PySem.W.mroIn K CD (.type "object") = some true)
    (x24D : PySem.W.hasDictIn K CD = true)
    (x25D : (PySem.W.clsIn K CD).isSome = true)
    (y1 : PySem.W.specialIn K (.builtin "object.__class__") "__get__" = some (some (.builtin "getset_descriptor.__get__")))
    (y2 : PySem.W.takesIn K (.builtin "object.__class__") = some true)
    : ExK K CD := ⟨x25D, x20D, x21D, x8D, x22D, y1, y2, x23D, x24D⟩
open KwX in
set_option maxHeartbeats 0 in
theorem z_TV {P : Program} {w : World} {K : PySem.W.Frag} {h : Heap} {mg : Str → Option Value} (X : K.In h) (G : h.Ns mainGlobals mg)
    {CV : Addr} {xNV : Addr} {fI_V : Addr} {xcdaV : Addr} {xccV : Addr} {xnmV : Str} {xqV : Str} {xbsV : List Value} {xbmV : List Value} {xsubV : List Value} {xsnV : List Str} {xabV : Bool} {xcolV : Option Bool} {xddV : Option Addr} {xodV : Option Addr} {xanV : Option Addr} {xcldV : Option Addr} {xcddV : Option Addr} {xk0V : Option Value} {xk1V : Option Value} {xk2V : Option Value} {xk3V : Option Value} {xk5V : Option Value} {xocV : Value} {xdocV : Value} {xpmV : Value} {xctV : Value} {xcclV : Value} {xclV : Value} {xoslV : Array (Option Value)} {xccsV : Array (Option Value)} {xcslV : Array (Option Value)} {xvsV : Array Value} {xfileV : Str} {xtfV : Tok}
    (a_CV : PySem.W.nsIn K mainGlobals "InvalidMap" = some (some (.ref CV)))
    (z_super : PySem.W.nsIn K mainGlobals "super" = some none)
    (x1V : K.lookup CV = some (excClassObj xnmV xqV CV xNV xbsV xbmV true xsnV xsubV xabV xcolV xddV xk0V xk1V xk2V xk3V xk5V "ValueError.__new__"))
    (x2V : PySem.HandSPX.refsVE xbmV = true)
    (x3V : PySem.W.findIn K (.ref CV) "__setattr__" = some (some (.builtin "object.__setattr__")))
    (x4V : PySem.W.findIn K (.ref CV) "index" = some none)
    (x5V : PySem.W.findIn K (.ref CV) "__init__" = some (some (.ref fI_V)))
    (x6V : PySem.W.typeIn K (.ref fI_V) = some (.type "function"))
    (x7V : PySem.W.keepIn K (.ref CV) = true)
    (x8V : PySem.W.subIn K (.ref CV) (.type "BaseException") = some true)
    (x9V : PySem.W.typeIn K (.ref CV) = some (.type "type"))
    (x10V : PySem.W.subIn K (.ref CV) (.type "ValueError") = some true)
    (x12V : PySem.W.ks_superIn K CV CV "__init__" = some (some (.builtin "ValueError.__init__")))
    (x13V : PySem.W.mroIn K CV (.ref CV) = some true)
    (x14V : K.lookup fI_V = some ⟨xocV, xodV, .func (PySem.W.ksFn "__init__" "InvalidMap.__init__" (defArgs s_inv) (defBody s_inv) (defScope s_inv) .none .none xdocV xpmV xanV (.ref xcdaV) xctV xccV), xoslV⟩)
    (x15V : PySem.W.codeIn K (.ref xcdaV) "InvalidMap.__init__" = true)
    (x16V : K.lookup xcdaV = some ⟨xcclV, xcddV, .fields xvsV, xccsV⟩)
    (x17V : xvsV[2]? = some (.str xfileV xtfV))
    (x18V : ((P.main.file : Str) == xfileV) = true)
    (x19V : K.lookup xccV = some ⟨xclV, xcldV, .cell (some (.ref CV)), xcslV⟩)
    (opq : PySem.W.nsIn K cStatics "thirdparty.any" = some none)
    (top_ : (P.main.scope.names.lookup ("super" : Str)).isSome = false)
    : KwT P K mg s_inv "InvalidMap" "InvalidMap.__init__" "a map is invalid" "index" CV fI_V := ⟨PySem.W.mg_of X G a_CV, ⟨_, _, _, _, _, _, _, _, _, _, _, _, _, _, _, x1V, x2V⟩, x3V, x4V, x5V, x6V, x7V, x8V, x9V, x10V, opq, x12V, x13V, PySem.W.mg_none_of X G z_super, top_, ⟨_, _, _, _, _, _, _, _, _, _, _, _, _, _, _, _, _, _, x14V, x15V, x16V, x17V, x18V, x19V⟩⟩
open KwX in
set_option maxHeartbeats 0 in
theorem z_EV {P : Program} {w : World} {K : PySem.W.Frag} {h : Heap} {mg : Str → Option Value} (X : K.In h) (G : h.Ns mainGlobals mg)
    {CV : Addr}
    (x8V : PySem.W.subIn K (.ref CV) (.type "BaseException") = some true)
    (x20V : PySem.W.findIn K (.ref CV) "__getattribute__" = some (some (.builtin "BaseException.__getattribute__")))
    (x21V : PySem.W.findIn K (.ref CV) "__getattr__" = some none)
    (x22V : PySem.W.findIn K (.ref CV) "__class__" = some (some (.builtin "object.__class__")))
    (x23V : PySem.W.mroIn K CV (.type "object") = some true)
    (x24V : PySem.W.hasDictIn K CV = true)
    (x25V : (PySem.W.clsIn K CV).isSome = true)
    (y1 : PySem.W.specialIn K (.builtin "object.__class__") "__get__" = some (some (.builtin "getset_descriptor.__get__")))
    (y2 : PySem.W.takesIn K (.builtin "object.__class__") = some true)
    : ExK K CV := ⟨x25V, x20V, x21V, x8V, x22V, y1, y2, x23V, x24V⟩
open KwX in
set_option maxHeartbeats 0 in
theorem z_XT {P : Program} {w : World} {K : PySem.W.Frag} {h : Heap} {mg : Str → Option Value} (X : K.In h) (G : h.Ns mainGlobals mg)
    {CD : Addr} {CV : Addr} {fI_D : Addr} {fI_V : Addr}
    (Q : PTxt K mg)
    (TD : KwT P K mg s_dec "DecodeError" "DecodeError.__init__" "a code is malformed" "offset" CD fI_D)
    (TV : KwT P K mg s_inv "InvalidMap" "InvalidMap.__init__" "a map is invalid" "index" CV fI_V)
    
    : XTxt P K mg CD fI_D CV fI_V := { Q with dec := TD, inv := TV }
open KwX in
set_option maxHeartbeats 0 in
theorem z_FA {P : Program} {w : World} {K : PySem.W.Frag} {h : Heap} {mg : Str → Option Value} (X : K.In h) (G : h.Ns mainGlobals mg)
    {oA : Addr} {fo_0 : Addr} {t0_fo0 : Tok} {d_fo0 : Option Addr} {n_fo0 : Nat} {sl_fo0 : Array (Option Value)} {fo_1 : Addr} {t0_fo1 : Tok} {t1_fo1 : Tok} {d_fo1 : Option Addr} {n_fo1 : Nat} {sl_fo1 : Array (Option Value)} {fo_2 : Addr} {t0_fo2 : Tok} {d_fo2 : Option Addr} {n_fo2 : Nat} {sl_fo2 : Array (Option Value)} {fo_3 : Addr} {t0_fo3 : Tok} {d_fo3 : Option Addr} {n_fo3 : Nat} {sl_fo3 : Array (Option Value)} {fo_4 : Addr} {t0_fo4 : Tok} {t1_fo4 : Tok} {d_fo4 : Option Addr} {n_fo4 : Nat} {sl_fo4 : Array (Option Value)} {fo_5 : Addr} {t0_fo5 : Tok} {t1_fo5 : Tok} {d_fo5 : Option Addr} {n_fo5 : Nat} {sl_fo5 : Array (Option Value)} {fo_6 : Addr} {t0_fo6 : Tok} {t1_fo6 : Tok} {t2_fo6 : Tok} {d_fo6 : Option Addr} {n_fo6 : Nat} {sl_fo6 : Array (Option Value)}
    (a_fo0 : PySem.W.nsIn K oA "turn" = some (some (.ref fo_0)))
    (l_fo0 : K.lookup fo_0 = some ⟨.type "tuple", d_fo0, .seq #[.str "numbers" t0_fo0] n_fo0, sl_fo0⟩)
    (a_fo1 : PySem.W.nsIn K oA "walk" = some (some (.ref fo_1)))
    (l_fo1 : K.lookup fo_1 = some ⟨.type "tuple", d_fo1, .seq #[.str "number" t0_fo1, .str "number" t1_fo1] n_fo1, sl_fo1⟩)
    (a_fo2 : PySem.W.nsIn K oA "until" = some (some (.ref fo_2)))
    (l_fo2 : K.lookup fo_2 = some ⟨.type "tuple", d_fo2, .seq #[.str "signs" t0_fo2] n_fo2, sl_fo2⟩)
    (a_fo3 : PySem.W.nsIn K oA "toward" = some (some (.ref fo_3)))
    (l_fo3 : K.lookup fo_3 = some ⟨.type "tuple", d_fo3, .seq #[.str "signs" t0_fo3] n_fo3, sl_fo3⟩)
    (a_fo4 : PySem.W.nsIn K oA "beside" = some (some (.ref fo_4)))
    (l_fo4 : K.lookup fo_4 = some ⟨.type "tuple", d_fo4, .seq #[.str "number" t0_fo4, .str "all" t1_fo4] n_fo4, sl_fo4⟩)
    (a_fo5 : PySem.W.nsIn K oA "near" = some (some (.ref fo_5)))
    (l_fo5 : K.lookup fo_5 = some ⟨.type "tuple", d_fo5, .seq #[.str "all" t0_fo5, .str "number" t1_fo5] n_fo5, sl_fo5⟩)
    (a_fo6 : PySem.W.nsIn K oA "shore" = some (some (.ref fo_6)))
    (l_fo6 : K.lookup fo_6 = some ⟨.type "tuple", d_fo6, .seq #[.str "number" t0_fo6, .str "number" t1_fo6, .str "number" t2_fo6] n_fo6, sl_fo6⟩)
    : ∀ k < 7, ∃ fa : Addr, PySem.W.nsIn K oA (hdw k) = some (some (.ref fa)) ∧ ∀ H, SqT K H fa ((frm k).map fun c => V.str (fnm c)) := fun k hk => by
    have h7 : k = 0 ∨ k = 1 ∨ k = 2 ∨ k = 3 ∨ k = 4 ∨ k = 5 ∨ k = 6 := by omega
    rcases h7 with rfl | rfl | rfl | rfl | rfl | rfl | rfl
    · exact ⟨fo_0, a_fo0, fun _ => .inr ⟨_, _, _, l_fo0, rfl, rfl, small (Nat.le_of_ble_eq_true rfl), (.cons ⟨_, rfl⟩ .nil)⟩⟩
    · exact ⟨fo_1, a_fo1, fun _ => .inr ⟨_, _, _, l_fo1, rfl, rfl, small (Nat.le_of_ble_eq_true rfl), (.cons ⟨_, rfl⟩ (.cons ⟨_, rfl⟩ .nil))⟩⟩
    · exact ⟨fo_2, a_fo2, fun _ => .inr ⟨_, _, _, l_fo2, rfl, rfl, small (Nat.le_of_ble_eq_true rfl), (.cons ⟨_, rfl⟩ .nil)⟩⟩
    · exact ⟨fo_3, a_fo3, fun _ => .inr ⟨_, _, _, l_fo3, rfl, rfl, small (Nat.le_of_ble_eq_true rfl), (.cons ⟨_, rfl⟩ .nil)⟩⟩
    · exact ⟨fo_4, a_fo4, fun _ => .inr ⟨_, _, _, l_fo4, rfl, rfl, small (Nat.le_of_ble_eq_true rfl), (.cons ⟨_, rfl⟩ (.cons ⟨_, rfl⟩ .nil))⟩⟩
    · exact ⟨fo_5, a_fo5, fun _ => .inr ⟨_, _, _, l_fo5, rfl, rfl, small (Nat.le_of_ble_eq_true rfl), (.cons ⟨_, rfl⟩ (.cons ⟨_, rfl⟩ .nil))⟩⟩
    · exact ⟨fo_6, a_fo6, fun _ => .inr ⟨_, _, _, l_fo6, rfl, rfl, small (Nat.le_of_ble_eq_true rfl), (.cons ⟨_, rfl⟩ (.cons ⟨_, rfl⟩ (.cons ⟨_, rfl⟩ .nil)))⟩⟩
open KwX in
set_option maxHeartbeats 0 in
theorem z_TT {P : Program} {w : World} {K : PySem.W.Frag} {h : Heap} {mg : Str → Option Value} (X : K.In h) (G : h.Ns mainGlobals mg)
    {CD : Addr} {CV : Addr} {hA : Addr} {oA : Addr} {t0_HEADS : Tok} {t1_HEADS : Tok} {t2_HEADS : Tok} {t3_HEADS : Tok} {t4_HEADS : Tok} {t5_HEADS : Tok} {t6_HEADS : Tok} {d_HEADS : Option Addr} {n_HEADS : Nat} {sl_HEADS : Array (Option Value)} {es : Array DictEntry} {nD : Nat} {fI_D : Addr} {fI_V : Addr}
    (XT : XTxt P K mg CD fI_D CV fI_V)
    (FA : ∀ k < 7, ∃ fa : Addr, PySem.W.nsIn K oA (hdw k) = some (some (.ref fa)) ∧ ∀ H, SqT K H fa ((frm k).map fun c => V.str (fnm c)))
    (a_HEADS : PySem.W.nsIn K mainGlobals "HEADS" = some (some (.ref hA)))
    (l_HEADS : K.lookup hA = some ⟨.type "tuple", d_HEADS, .seq #[.str "turn" t0_HEADS, .str "walk" t1_HEADS, .str "until" t2_HEADS, .str "toward" t3_HEADS, .str "beside" t4_HEADS, .str "near" t5_HEADS, .str "shore" t6_HEADS] n_HEADS, sl_HEADS⟩)
    (a_FORMS : PySem.W.nsIn K mainGlobals "FORMS" = some (some (.ref oA)))
    (l_FORMS : K.lookup oA = some ⟨.type "dict", none, .dict es nD, #[]⟩)
    (lit : PySem.W.KeysLit w.params es.toList)
    (low : (oA == sysModules) = false)
    : TTxt P w K mg CD fI_D CV fI_V hA oA es nD := { XT with HEADS := ⟨_, PySem.W.mg_of X G a_HEADS, rfl⟩, headsT := fun _ => .inr ⟨_, _, _, l_HEADS, rfl, rfl, small (Nat.le_of_ble_eq_true rfl), (.cons ⟨_, rfl⟩ (.cons ⟨_, rfl⟩ (.cons ⟨_, rfl⟩ (.cons ⟨_, rfl⟩ (.cons ⟨_, rfl⟩ (.cons ⟨_, rfl⟩ (.cons ⟨_, rfl⟩ .nil)))))))⟩, FORMS := ⟨_, PySem.W.mg_of X G a_FORMS, rfl⟩, formsD := ⟨l_FORMS, lit, low⟩, formsAt := FA }
open KwX in
set_option maxHeartbeats 0 in
theorem z_RC {P : Program} {w : World} {K : PySem.W.Frag} {h : Heap} {mg : Str → Option Value} (X : K.In h) (G : h.Ns mainGlobals mg)
    {C : Addr} {f_Reader_init : Addr} {p0 : Addr} {p1 : Addr}
    (a_C : PySem.W.nsIn K mainGlobals "Reader" = some (some (.ref C)))
    (a_Reader_init : PySem.W.findIn K (.ref C) "__init__" = some (some (.ref f_Reader_init)))
    (i_Reader_init : PySem.W.isFn K (.ref f_Reader_init) = true)
    (pg_C : PySem.W.plainGet K C Str.empty = true)
    (ic_C : PySem.W.isClsIn K C = true)
    (po_C : PySem.W.plainOver K C = true)
    (sa_C : PySem.W.findIn K (.ref C) "__setattr__" = some (some (.builtin "object.__setattr__")))
    (mk_C : PySem.W.makesIn K C = true)
    (kc_C : PySem.W.keepIn K (.ref C) = true)
    (s1_codes : PySem.W.findIn K (.ref C) "codes" = some (some (.ref p0)))
    (s2_codes : PySem.W.specialIn K (.ref p0) "__get__" = some (some (.builtin "member_descriptor.__get__")))
    (s3_codes : PySem.W.takesIn K (.ref p0) = some true)
    (s4_codes : PySem.W.typeIn K (.ref p0) = some (.type "member_descriptor"))
    (s5_codes : PySem.W.slotIn K p0 C = some 0)
    (s1_offset : PySem.W.findIn K (.ref C) "offset" = some (some (.ref p1)))
    (s2_offset : PySem.W.specialIn K (.ref p1) "__get__" = some (some (.builtin "member_descriptor.__get__")))
    (s3_offset : PySem.W.takesIn K (.ref p1) = some true)
    (s4_offset : PySem.W.typeIn K (.ref p1) = some (.type "member_descriptor"))
    (s5_offset : PySem.W.slotIn K p1 C = some 1)
    : RdC K mg C p0 p1 := ⟨PySem.W.mg_of X G a_C, ⟨pg_C, ic_C, po_C, sa_C⟩, ⟨_, mk_C, a_Reader_init, i_Reader_init, kc_C⟩, ⟨s1_codes, s2_codes, s3_codes, s4_codes, s5_codes, by decide⟩, ⟨s1_offset, s2_offset, s3_offset, s4_offset, s5_offset, by decide⟩⟩
open KwX in
set_option maxHeartbeats 0 in
theorem z_IC {P : Program} {w : World} {K : PySem.W.Frag} {h : Heap} {mg : Str → Option Value} (X : K.In h) (G : h.Ns mainGlobals mg)
    {CI : Addr} {f_Island_init : Addr}
    (a_CI : PySem.W.nsIn K mainGlobals "Island" = some (some (.ref CI)))
    (a_Island_init : PySem.W.findIn K (.ref CI) "__init__" = some (some (.ref f_Island_init)))
    (i_Island_init : PySem.W.isFn K (.ref f_Island_init) = true)
    (pg_CI : PySem.W.plainGet K CI Str.empty = true)
    (hd_CI : PySem.W.hasDictIn K CI = true)
    (po_CI : PySem.W.plainOver K CI = true)
    (sa_CI : PySem.W.findIn K (.ref CI) "__setattr__" = some (some (.builtin "object.__setattr__")))
    (mk_CI : PySem.W.makesIn K CI = true)
    (kc_CI : PySem.W.keepIn K (.ref CI) = true)
    (na_own_rows : PySem.W.findIn K (.ref CI) "own_rows" = some none)
    : IslC K mg CI := ⟨PySem.W.mg_of X G a_CI, ⟨pg_CI, hd_CI, po_CI, sa_CI⟩, ⟨_, mk_CI, a_Island_init, i_Island_init, kc_CI⟩, na_own_rows⟩
open KwX in
set_option maxHeartbeats 0 in
theorem z_MC {P : Program} {w : World} {K : PySem.W.Frag} {h : Heap} {mg : Str → Option Value} (X : K.In h) (G : h.Ns mainGlobals mg)
    {CM : Addr} {f_Map_init : Addr}
    (a_CM : PySem.W.nsIn K mainGlobals "Map" = some (some (.ref CM)))
    (a_Map_init : PySem.W.findIn K (.ref CM) "__init__" = some (some (.ref f_Map_init)))
    (i_Map_init : PySem.W.isFn K (.ref f_Map_init) = true)
    (pg_CM : PySem.W.plainGet K CM Str.empty = true)
    (hd_CM : PySem.W.hasDictIn K CM = true)
    (po_CM : PySem.W.plainOver K CM = true)
    (sa_CM : PySem.W.findIn K (.ref CM) "__setattr__" = some (some (.builtin "object.__setattr__")))
    (mk_CM : PySem.W.makesIn K CM = true)
    (kc_CM : PySem.W.keepIn K (.ref CM) = true)
    (na_own_island : PySem.W.findIn K (.ref CM) "own_island" = some none)
    (na_own_signs : PySem.W.findIn K (.ref CM) "own_signs" = some none)
    (na_own_facings : PySem.W.findIn K (.ref CM) "own_facings" = some none)
    (na_own_instructions : PySem.W.findIn K (.ref CM) "own_instructions" = some none)
    : MapC K mg CM := ⟨PySem.W.mg_of X G a_CM, ⟨pg_CM, hd_CM, po_CM, sa_CM⟩, ⟨_, mk_CM, a_Map_init, i_Map_init, kc_CM⟩, na_own_island, na_own_signs, na_own_facings, na_own_instructions⟩
open KwX in
set_option maxHeartbeats 0 in
theorem z_S {P : Program} {w : World} {K : PySem.W.Frag} {h : Heap} {mg : Str → Option Value} (X : K.In h) (G : h.Ns mainGlobals mg)
    {CM : Addr} {CI : Addr} {CD : Addr} {CV : Addr} {CE : Addr}
    (ED : ExK K CD)
    (EV : ExK K CV)
    (a_CD : PySem.W.nsIn K mainGlobals "DecodeError" = some (some (.ref CD)))
    (a_CV : PySem.W.nsIn K mainGlobals "InvalidMap" = some (some (.ref CV)))
    (a_CE : PySem.W.nsIn K mainGlobals "MapError" = some (some (.ref CE)))
    (x4D : PySem.W.findIn K (.ref CD) "offset" = some none)
    (x26D : PySem.W.exmOne K (.ref CD) (.ref CE) = some true)
    (x4V : PySem.W.findIn K (.ref CV) "index" = some none)
    (x26V : PySem.W.exmOne K (.ref CV) (.ref CE) = some true)
    (y3 : PySem.W.kitOne K (.ref CD) (.ref CD) = some true)
    (y4 : PySem.W.kitOne K (.ref CV) (.ref CD) = some false)
    (y5 : PySem.W.kitOne K (.ref CV) (.ref CV) = some true)
    (y6 : PySem.W.kitOne K (.ref CM) (.ref CM) = some true)
    (y7 : PySem.W.findIn K (.ref CM) "__class__" = some (some (.builtin "object.__class__")))
    (y8 : PySem.W.mroIn K CM (.type "object") = some true)
    : SeenC K mg CM CI CD CV CE := ⟨PySem.W.mg_of X G a_CE, PySem.W.mg_of X G a_CD, PySem.W.mg_of X G a_CV, x26D, x26V, ED, EV, x4D, x4V, y3, y4, y5, y7, y8, y6⟩
end
section
/-! ### what the top has left, as premises; the law from them -/
open KwX in
set_option maxHeartbeats 0 in
theorem all_mk {P : Program} {w : World} {K : PySem.W.Frag} {h : Heap} {mg : Str → Option Value} {fa : Addr} (X : K.In h) (G : h.Ns mainGlobals mg) (hfa : mg "law" = some (.ref fa))
    {f_is_number : Addr} {oc_is_number kV_is_number dc_is_number pm_is_number cd_is_number ct_is_number : Value} {od_is_number an_is_number : Option Addr} {sl_is_number : Array (Option Value)} {f_is_rising : Addr} {oc_is_rising kV_is_rising dc_is_rising pm_is_rising cd_is_rising ct_is_rising : Value} {od_is_rising an_is_rising : Option Addr} {sl_is_rising : Array (Option Value)} {f_are_signs : Addr} {oc_are_signs kV_are_signs dc_are_signs pm_are_signs cd_are_signs ct_are_signs : Value} {od_are_signs an_are_signs : Option Addr} {sl_are_signs : Array (Option Value)} {f_are_turns : Addr} {oc_are_turns kV_are_turns dc_are_turns pm_are_turns cd_are_turns ct_are_turns : Value} {od_are_turns an_are_turns : Option Addr} {sl_are_turns : Array (Option Value)} {f_is_range : Addr} {oc_is_range kV_is_range dc_is_range pm_is_range cd_is_range ct_is_range : Value} {od_is_range an_is_range : Option Addr} {sl_is_range : Array (Option Value)} {f_is_instruction : Addr} {oc_is_instruction kV_is_instruction dc_is_instruction pm_is_instruction cd_is_instruction ct_is_instruction : Value} {od_is_instruction an_is_instruction : Option Addr} {sl_is_instruction : Array (Option Value)} {f_checksum : Addr} {oc_checksum kV_checksum dc_checksum pm_checksum cd_checksum ct_checksum : Value} {od_checksum an_checksum : Option Addr} {sl_checksum : Array (Option Value)} {f_decode_map : Addr} {oc_decode_map kV_decode_map dc_decode_map pm_decode_map cd_decode_map ct_decode_map : Value} {od_decode_map an_decode_map : Option Addr} {sl_decode_map : Array (Option Value)} {f__law_mix : Addr} {oc__law_mix kV__law_mix dc__law_mix pm__law_mix cd__law_mix ct__law_mix : Value} {od__law_mix an__law_mix : Option Addr} {sl__law_mix : Array (Option Value)} {f__law_next : Addr} {oc__law_next kV__law_next dc__law_next pm__law_next cd__law_next ct__law_next : Value} {od__law_next an__law_next : Option Addr} {sl__law_next : Array (Option Value)} {f__law_alike : Addr} {oc__law_alike kV__law_alike dc__law_alike pm__law_alike cd__law_alike ct__law_alike : Value} {od__law_alike an__law_alike : Option Addr} {sl__law_alike : Array (Option Value)} {f__law_rows : Addr} {oc__law_rows kV__law_rows dc__law_rows pm__law_rows cd__law_rows ct__law_rows : Value} {od__law_rows an__law_rows : Option Addr} {sl__law_rows : Array (Option Value)} {f__law_sign : Addr} {oc__law_sign kV__law_sign dc__law_sign pm__law_sign cd__law_sign ct__law_sign : Value} {od__law_sign an__law_sign : Option Addr} {sl__law_sign : Array (Option Value)} {f__law_cells : Addr} {oc__law_cells kV__law_cells dc__law_cells pm__law_cells cd__law_cells ct__law_cells : Value} {od__law_cells an__law_cells : Option Addr} {sl__law_cells : Array (Option Value)} {f__law_on : Addr} {oc__law_on kV__law_on dc__law_on pm__law_on cd__law_on ct__law_on : Value} {od__law_on an__law_on : Option Addr} {sl__law_on : Array (Option Value)} {f__law_line : Addr} {oc__law_line kV__law_line dc__law_line pm__law_line cd__law_line ct__law_line : Value} {od__law_line an__law_line : Option Addr} {sl__law_line : Array (Option Value)} {f__law_shore : Addr} {oc__law_shore kV__law_shore dc__law_shore pm__law_shore cd__law_shore ct__law_shore : Value} {od__law_shore an__law_shore : Option Addr} {sl__law_shore : Array (Option Value)} {f__law_steps : Addr} {oc__law_steps kV__law_steps dc__law_steps pm__law_steps cd__law_steps ct__law_steps : Value} {od__law_steps an__law_steps : Option Addr} {sl__law_steps : Array (Option Value)} {f__law_behind : Addr} {oc__law_behind kV__law_behind dc__law_behind pm__law_behind cd__law_behind ct__law_behind : Value} {od__law_behind an__law_behind : Option Addr} {sl__law_behind : Array (Option Value)} {f__law_begin : Addr} {oc__law_begin kV__law_begin dc__law_begin pm__law_begin cd__law_begin ct__law_begin : Value} {od__law_begin an__law_begin : Option Addr} {sl__law_begin : Array (Option Value)} {f__law_final : Addr} {oc__law_final kV__law_final dc__law_final pm__law_final cd__law_final ct__law_final : Value} {od__law_final an__law_final : Option Addr} {sl__law_final : Array (Option Value)} {f__law_signs : Addr} {oc__law_signs kV__law_signs dc__law_signs pm__law_signs cd__law_signs ct__law_signs : Value} {od__law_signs an__law_signs : Option Addr} {sl__law_signs : Array (Option Value)} {f__law_turns : Addr} {oc__law_turns kV__law_turns dc__law_turns pm__law_turns cd__law_turns ct__law_turns : Value} {od__law_turns an__law_turns : Option Addr} {sl__law_turns : Array (Option Value)} {f__law_one : Addr} {oc__law_one kV__law_one dc__law_one pm__law_one cd__law_one ct__law_one : Value} {od__law_one an__law_one : Option Addr} {sl__law_one : Array (Option Value)} {f__law_drawn : Addr} {oc__law_drawn kV__law_drawn dc__law_drawn pm__law_drawn cd__law_drawn ct__law_drawn : Value} {od__law_drawn an__law_drawn : Option Addr} {sl__law_drawn : Array (Option Value)} {f__law_parts : Addr} {oc__law_parts kV__law_parts dc__law_parts pm__law_parts cd__law_parts ct__law_parts : Value} {od__law_parts an__law_parts : Option Addr} {sl__law_parts : Array (Option Value)} {f__law_heads : Addr} {oc__law_heads kV__law_heads dc__law_heads pm__law_heads cd__law_heads ct__law_heads : Value} {od__law_heads an__law_heads : Option Addr} {sl__law_heads : Array (Option Value)} {f__law_wrong_index : Addr} {oc__law_wrong_index kV__law_wrong_index dc__law_wrong_index pm__law_wrong_index cd__law_wrong_index ct__law_wrong_index : Value} {od__law_wrong_index an__law_wrong_index : Option Addr} {sl__law_wrong_index : Array (Option Value)} {f__law_signs_code : Addr} {oc__law_signs_code kV__law_signs_code dc__law_signs_code pm__law_signs_code cd__law_signs_code ct__law_signs_code : Value} {od__law_signs_code an__law_signs_code : Option Addr} {sl__law_signs_code : Array (Option Value)} {f__law_sum : Addr} {oc__law_sum kV__law_sum dc__law_sum pm__law_sum cd__law_sum ct__law_sum : Value} {od__law_sum an__law_sum : Option Addr} {sl__law_sum : Array (Option Value)} {f__law_code : Addr} {oc__law_code kV__law_code dc__law_code pm__law_code cd__law_code ct__law_code : Value} {od__law_code an__law_code : Option Addr} {sl__law_code : Array (Option Value)} {f__law_pull : Addr} {oc__law_pull kV__law_pull dc__law_pull pm__law_pull cd__law_pull ct__law_pull : Value} {od__law_pull an__law_pull : Option Addr} {sl__law_pull : Array (Option Value)} {f__law_pull_signs : Addr} {oc__law_pull_signs kV__law_pull_signs dc__law_pull_signs pm__law_pull_signs cd__law_pull_signs ct__law_pull_signs : Value} {od__law_pull_signs an__law_pull_signs : Option Addr} {sl__law_pull_signs : Array (Option Value)} {f__law_pull_turns : Addr} {oc__law_pull_turns kV__law_pull_turns dc__law_pull_turns pm__law_pull_turns cd__law_pull_turns ct__law_pull_turns : Value} {od__law_pull_turns an__law_pull_turns : Option Addr} {sl__law_pull_turns : Array (Option Value)} {f__law_decoded : Addr} {oc__law_decoded kV__law_decoded dc__law_decoded pm__law_decoded cd__law_decoded ct__law_decoded : Value} {od__law_decoded an__law_decoded : Option Addr} {sl__law_decoded : Array (Option Value)} {f__law_wrong_signs : Addr} {oc__law_wrong_signs kV__law_wrong_signs dc__law_wrong_signs pm__law_wrong_signs cd__law_wrong_signs ct__law_wrong_signs : Value} {od__law_wrong_signs an__law_wrong_signs : Option Addr} {sl__law_wrong_signs : Array (Option Value)} {f__law_seen : Addr} {oc__law_seen kV__law_seen dc__law_seen pm__law_seen cd__law_seen ct__law_seen : Value} {od__law_seen an__law_seen : Option Addr} {sl__law_seen : Array (Option Value)} {f__law_due : Addr} {oc__law_due kV__law_due dc__law_due pm__law_due cd__law_due ct__law_due : Value} {od__law_due an__law_due : Option Addr} {sl__law_due : Array (Option Value)} {f_law : Addr} {oc_law kV_law dc_law pm_law cd_law ct_law : Value} {od_law an_law : Option Addr} {sl_law : Array (Option Value)} {C : Addr} {CM : Addr} {CI : Addr} {CD : Addr} {CV : Addr} {CE : Addr} {f_Island_init : Addr} {oc_Island_init kV_Island_init dc_Island_init pm_Island_init cd_Island_init ct_Island_init : Value} {od_Island_init an_Island_init : Option Addr} {sl_Island_init : Array (Option Value)} {f_Map_init : Addr} {oc_Map_init kV_Map_init dc_Map_init pm_Map_init cd_Map_init ct_Map_init : Value} {od_Map_init an_Map_init : Option Addr} {sl_Map_init : Array (Option Value)} {f_Reader_init : Addr} {oc_Reader_init kV_Reader_init dc_Reader_init pm_Reader_init cd_Reader_init ct_Reader_init : Value} {od_Reader_init an_Reader_init : Option Addr} {sl_Reader_init : Array (Option Value)} {f_Reader_take : Addr} {oc_Reader_take kV_Reader_take dc_Reader_take pm_Reader_take cd_Reader_take ct_Reader_take : Value} {od_Reader_take an_Reader_take : Option Addr} {sl_Reader_take : Array (Option Value)} {f_Reader_take_signs : Addr} {oc_Reader_take_signs kV_Reader_take_signs dc_Reader_take_signs pm_Reader_take_signs cd_Reader_take_signs ct_Reader_take_signs : Value} {od_Reader_take_signs an_Reader_take_signs : Option Addr} {sl_Reader_take_signs : Array (Option Value)} {f_Reader_take_turns : Addr} {oc_Reader_take_turns kV_Reader_take_turns dc_Reader_take_turns pm_Reader_take_turns cd_Reader_take_turns ct_Reader_take_turns : Value} {od_Reader_take_turns an_Reader_take_turns : Option Addr} {sl_Reader_take_turns : Array (Option Value)} {f_Reader_take_instruction : Addr} {oc_Reader_take_instruction kV_Reader_take_instruction dc_Reader_take_instruction pm_Reader_take_instruction cd_Reader_take_instruction ct_Reader_take_instruction : Value} {od_Reader_take_instruction an_Reader_take_instruction : Option Addr} {sl_Reader_take_instruction : Array (Option Value)} {q_Map_island f_Map_island : Addr} {r_Map_island : List Value} {oc_Map_island kV_Map_island dc_Map_island pm_Map_island cd_Map_island ct_Map_island : Value} {od_Map_island an_Map_island : Option Addr} {sl_Map_island : Array (Option Value)} {q_Map_signs f_Map_signs : Addr} {r_Map_signs : List Value} {oc_Map_signs kV_Map_signs dc_Map_signs pm_Map_signs cd_Map_signs ct_Map_signs : Value} {od_Map_signs an_Map_signs : Option Addr} {sl_Map_signs : Array (Option Value)} {q_Map_facings f_Map_facings : Addr} {r_Map_facings : List Value} {oc_Map_facings kV_Map_facings dc_Map_facings pm_Map_facings cd_Map_facings ct_Map_facings : Value} {od_Map_facings an_Map_facings : Option Addr} {sl_Map_facings : Array (Option Value)} {q_Map_instructions f_Map_instructions : Addr} {r_Map_instructions : List Value} {oc_Map_instructions kV_Map_instructions dc_Map_instructions pm_Map_instructions cd_Map_instructions ct_Map_instructions : Value} {od_Map_instructions an_Map_instructions : Option Addr} {sl_Map_instructions : Array (Option Value)} {q_Island_rows f_Island_rows : Addr} {r_Island_rows : List Value} {oc_Island_rows kV_Island_rows dc_Island_rows pm_Island_rows cd_Island_rows ct_Island_rows : Value} {od_Island_rows an_Island_rows : Option Addr} {sl_Island_rows : Array (Option Value)} {t_CHECK : Tok} {t_MAX_PACES : Tok} {t_MAX_SIZE : Tok} {t_MAX_FAR : Tok} {t_RIGHT : Tok} {t_LEFT : Tok} {t_MAX_INSTRUCTIONS : Tok} {t_FIRST : Tok} {t_MAX_CODE : Tok} {t_LAND : Tok} {t_WATER : Tok} {t_LETTERS : Tok} {t_SIGNS : Tok} {t_TURN : Tok} {t_WALK : Tok} {t_UNTIL : Tok} {t_TOWARD : Tok} {t_BESIDE : Tok} {t_NEAR : Tok} {hA oA : Addr} {t0_HEADS t1_HEADS t2_HEADS t3_HEADS t4_HEADS t5_HEADS t6_HEADS : Tok} {d_HEADS : Option Addr} {n_HEADS : Nat} {sl_HEADS : Array (Option Value)} {es : Array DictEntry} {nD : Nat} {fo_0 : Addr} {t0_fo0 : Tok} {d_fo0 : Option Addr} {n_fo0 : Nat} {sl_fo0 : Array (Option Value)} {fo_1 : Addr} {t0_fo1 t1_fo1 : Tok} {d_fo1 : Option Addr} {n_fo1 : Nat} {sl_fo1 : Array (Option Value)} {fo_2 : Addr} {t0_fo2 : Tok} {d_fo2 : Option Addr} {n_fo2 : Nat} {sl_fo2 : Array (Option Value)} {fo_3 : Addr} {t0_fo3 : Tok} {d_fo3 : Option Addr} {n_fo3 : Nat} {sl_fo3 : Array (Option Value)} {fo_4 : Addr} {t0_fo4 t1_fo4 : Tok} {d_fo4 : Option Addr} {n_fo4 : Nat} {sl_fo4 : Array (Option Value)} {fo_5 : Addr} {t0_fo5 t1_fo5 : Tok} {d_fo5 : Option Addr} {n_fo5 : Nat} {sl_fo5 : Array (Option Value)} {fo_6 : Addr} {t0_fo6 t1_fo6 t2_fo6 : Tok} {d_fo6 : Option Addr} {n_fo6 : Nat} {sl_fo6 : Array (Option Value)} {xND fI_D xcdaD xccD : Addr} {xnmD xqD : Str} {xbsD xbmD xsubD : List Value} {xsnD : List Str} {xabD : Bool} {xcolD : Option Bool} {xddD xodD xanD xcldD xcddD : Option Addr} {xk0D xk1D xk2D xk3D xk5D : Option Value} {xocD xdocD xpmD xctD xcclD xclD : Value} {xoslD xccsD xcslD : Array (Option Value)} {xvsD : Array Value} {xfileD : Str} {xtfD : Tok} {xNV fI_V xcdaV xccV : Addr} {xnmV xqV : Str} {xbsV xbmV xsubV : List Value} {xsnV : List Str} {xabV : Bool} {xcolV : Option Bool} {xddV xodV xanV xcldV xcddV : Option Addr} {xk0V xk1V xk2V xk3V xk5V : Option Value} {xocV xdocV xpmV xctV xcclV xclV : Value} {xoslV xccsV xcslV : Array (Option Value)} {xvsV : Array Value} {xfileV : Str} {xtfV : Tok} {p0 : Addr} {p1 : Addr}
    (a_is_number : PySem.W.nsIn K mainGlobals "is_number" = some (some (.ref f_is_number)))
    (l_is_number : K.lookup f_is_number = some ⟨oc_is_number, od_is_number, .func (PySem.W.fnOf "is_number" "is_number" (defArgs s_is_number) (defBody s_is_number) (defScope s_is_number) .none kV_is_number dc_is_number pm_is_number an_is_number cd_is_number ct_is_number), sl_is_number⟩)
    (c_is_number : PySem.W.codeIn K cd_is_number "is_number" = true)
    (k_is_number : PySem.W.keepIn K (.ref f_is_number) = true)
    (a_is_rising : PySem.W.nsIn K mainGlobals "is_rising" = some (some (.ref f_is_rising)))
    (l_is_rising : K.lookup f_is_rising = some ⟨oc_is_rising, od_is_rising, .func (PySem.W.fnOf "is_rising" "is_rising" (defArgs s_is_rising) (defBody s_is_rising) (defScope s_is_rising) .none kV_is_rising dc_is_rising pm_is_rising an_is_rising cd_is_rising ct_is_rising), sl_is_rising⟩)
    (c_is_rising : PySem.W.codeIn K cd_is_rising "is_rising" = true)
    (k_is_rising : PySem.W.keepIn K (.ref f_is_rising) = true)
    (a_are_signs : PySem.W.nsIn K mainGlobals "are_signs" = some (some (.ref f_are_signs)))
    (l_are_signs : K.lookup f_are_signs = some ⟨oc_are_signs, od_are_signs, .func (PySem.W.fnOf "are_signs" "are_signs" (defArgs s_are_signs) (defBody s_are_signs) (defScope s_are_signs) .none kV_are_signs dc_are_signs pm_are_signs an_are_signs cd_are_signs ct_are_signs), sl_are_signs⟩)
    (c_are_signs : PySem.W.codeIn K cd_are_signs "are_signs" = true)
    (k_are_signs : PySem.W.keepIn K (.ref f_are_signs) = true)
    (a_are_turns : PySem.W.nsIn K mainGlobals "are_turns" = some (some (.ref f_are_turns)))
    (l_are_turns : K.lookup f_are_turns = some ⟨oc_are_turns, od_are_turns, .func (PySem.W.fnOf "are_turns" "are_turns" (defArgs s_are_turns) (defBody s_are_turns) (defScope s_are_turns) .none kV_are_turns dc_are_turns pm_are_turns an_are_turns cd_are_turns ct_are_turns), sl_are_turns⟩)
    (c_are_turns : PySem.W.codeIn K cd_are_turns "are_turns" = true)
    (k_are_turns : PySem.W.keepIn K (.ref f_are_turns) = true)
    (a_is_range : PySem.W.nsIn K mainGlobals "is_range" = some (some (.ref f_is_range)))
    (l_is_range : K.lookup f_is_range = some ⟨oc_is_range, od_is_range, .func (PySem.W.fnOf "is_range" "is_range" (defArgs s_is_range) (defBody s_is_range) (defScope s_is_range) .none kV_is_range dc_is_range pm_is_range an_is_range cd_is_range ct_is_range), sl_is_range⟩)
    (c_is_range : PySem.W.codeIn K cd_is_range "is_range" = true)
    (k_is_range : PySem.W.keepIn K (.ref f_is_range) = true)
    (a_is_instruction : PySem.W.nsIn K mainGlobals "is_instruction" = some (some (.ref f_is_instruction)))
    (l_is_instruction : K.lookup f_is_instruction = some ⟨oc_is_instruction, od_is_instruction, .func (PySem.W.fnOf "is_instruction" "is_instruction" (defArgs s_is_instruction) (defBody s_is_instruction) (defScope s_is_instruction) .none kV_is_instruction dc_is_instruction pm_is_instruction an_is_instruction cd_is_instruction ct_is_instruction), sl_is_instruction⟩)
    (c_is_instruction : PySem.W.codeIn K cd_is_instruction "is_instruction" = true)
    (k_is_instruction : PySem.W.keepIn K (.ref f_is_instruction) = true)
    (a_checksum : PySem.W.nsIn K mainGlobals "checksum" = some (some (.ref f_checksum)))
    (l_checksum : K.lookup f_checksum = some ⟨oc_checksum, od_checksum, .func (PySem.W.fnOf "checksum" "checksum" (defArgs s_checksum) (defBody s_checksum) (defScope s_checksum) .none kV_checksum dc_checksum pm_checksum an_checksum cd_checksum ct_checksum), sl_checksum⟩)
    (c_checksum : PySem.W.codeIn K cd_checksum "checksum" = true)
    (k_checksum : PySem.W.keepIn K (.ref f_checksum) = true)
    (a_decode_map : PySem.W.nsIn K mainGlobals "decode_map" = some (some (.ref f_decode_map)))
    (l_decode_map : K.lookup f_decode_map = some ⟨oc_decode_map, od_decode_map, .func (PySem.W.fnOf "decode_map" "decode_map" (defArgs s_decode_map) (defBody s_decode_map) (defScope s_decode_map) .none kV_decode_map dc_decode_map pm_decode_map an_decode_map cd_decode_map ct_decode_map), sl_decode_map⟩)
    (c_decode_map : PySem.W.codeIn K cd_decode_map "decode_map" = true)
    (k_decode_map : PySem.W.keepIn K (.ref f_decode_map) = true)
    (a__law_mix : PySem.W.nsIn K mainGlobals "_law_mix" = some (some (.ref f__law_mix)))
    (l__law_mix : K.lookup f__law_mix = some ⟨oc__law_mix, od__law_mix, .func (PySem.W.fnOf "_law_mix" "_law_mix" (defArgs s__law_mix) (defBody s__law_mix) (defScope s__law_mix) .none kV__law_mix dc__law_mix pm__law_mix an__law_mix cd__law_mix ct__law_mix), sl__law_mix⟩)
    (c__law_mix : PySem.W.codeIn K cd__law_mix "_law_mix" = true)
    (k__law_mix : PySem.W.keepIn K (.ref f__law_mix) = true)
    (a__law_next : PySem.W.nsIn K mainGlobals "_law_next" = some (some (.ref f__law_next)))
    (l__law_next : K.lookup f__law_next = some ⟨oc__law_next, od__law_next, .func (PySem.W.fnOf "_law_next" "_law_next" (defArgs s__law_next) (defBody s__law_next) (defScope s__law_next) .none kV__law_next dc__law_next pm__law_next an__law_next cd__law_next ct__law_next), sl__law_next⟩)
    (c__law_next : PySem.W.codeIn K cd__law_next "_law_next" = true)
    (k__law_next : PySem.W.keepIn K (.ref f__law_next) = true)
    (a__law_alike : PySem.W.nsIn K mainGlobals "_law_alike" = some (some (.ref f__law_alike)))
    (l__law_alike : K.lookup f__law_alike = some ⟨oc__law_alike, od__law_alike, .func (PySem.W.fnOf "_law_alike" "_law_alike" (defArgs s__law_alike) (defBody s__law_alike) (defScope s__law_alike) .none kV__law_alike dc__law_alike pm__law_alike an__law_alike cd__law_alike ct__law_alike), sl__law_alike⟩)
    (c__law_alike : PySem.W.codeIn K cd__law_alike "_law_alike" = true)
    (k__law_alike : PySem.W.keepIn K (.ref f__law_alike) = true)
    (a__law_rows : PySem.W.nsIn K mainGlobals "_law_rows" = some (some (.ref f__law_rows)))
    (l__law_rows : K.lookup f__law_rows = some ⟨oc__law_rows, od__law_rows, .func (PySem.W.fnOf "_law_rows" "_law_rows" (defArgs s__law_rows) (defBody s__law_rows) (defScope s__law_rows) .none kV__law_rows dc__law_rows pm__law_rows an__law_rows cd__law_rows ct__law_rows), sl__law_rows⟩)
    (c__law_rows : PySem.W.codeIn K cd__law_rows "_law_rows" = true)
    (k__law_rows : PySem.W.keepIn K (.ref f__law_rows) = true)
    (a__law_sign : PySem.W.nsIn K mainGlobals "_law_sign" = some (some (.ref f__law_sign)))
    (l__law_sign : K.lookup f__law_sign = some ⟨oc__law_sign, od__law_sign, .func (PySem.W.fnOf "_law_sign" "_law_sign" (defArgs s__law_sign) (defBody s__law_sign) (defScope s__law_sign) .none kV__law_sign dc__law_sign pm__law_sign an__law_sign cd__law_sign ct__law_sign), sl__law_sign⟩)
    (c__law_sign : PySem.W.codeIn K cd__law_sign "_law_sign" = true)
    (k__law_sign : PySem.W.keepIn K (.ref f__law_sign) = true)
    (a__law_cells : PySem.W.nsIn K mainGlobals "_law_cells" = some (some (.ref f__law_cells)))
    (l__law_cells : K.lookup f__law_cells = some ⟨oc__law_cells, od__law_cells, .func (PySem.W.fnOf "_law_cells" "_law_cells" (defArgs s__law_cells) (defBody s__law_cells) (defScope s__law_cells) .none kV__law_cells dc__law_cells pm__law_cells an__law_cells cd__law_cells ct__law_cells), sl__law_cells⟩)
    (c__law_cells : PySem.W.codeIn K cd__law_cells "_law_cells" = true)
    (k__law_cells : PySem.W.keepIn K (.ref f__law_cells) = true)
    (a__law_on : PySem.W.nsIn K mainGlobals "_law_on" = some (some (.ref f__law_on)))
    (l__law_on : K.lookup f__law_on = some ⟨oc__law_on, od__law_on, .func (PySem.W.fnOf "_law_on" "_law_on" (defArgs s__law_on) (defBody s__law_on) (defScope s__law_on) .none kV__law_on dc__law_on pm__law_on an__law_on cd__law_on ct__law_on), sl__law_on⟩)
    (c__law_on : PySem.W.codeIn K cd__law_on "_law_on" = true)
    (k__law_on : PySem.W.keepIn K (.ref f__law_on) = true)
    (a__law_line : PySem.W.nsIn K mainGlobals "_law_line" = some (some (.ref f__law_line)))
    (l__law_line : K.lookup f__law_line = some ⟨oc__law_line, od__law_line, .func (PySem.W.fnOf "_law_line" "_law_line" (defArgs s__law_line) (defBody s__law_line) (defScope s__law_line) .none kV__law_line dc__law_line pm__law_line an__law_line cd__law_line ct__law_line), sl__law_line⟩)
    (c__law_line : PySem.W.codeIn K cd__law_line "_law_line" = true)
    (k__law_line : PySem.W.keepIn K (.ref f__law_line) = true)
    (a__law_shore : PySem.W.nsIn K mainGlobals "_law_shore" = some (some (.ref f__law_shore)))
    (l__law_shore : K.lookup f__law_shore = some ⟨oc__law_shore, od__law_shore, .func (PySem.W.fnOf "_law_shore" "_law_shore" (defArgs s__law_shore) (defBody s__law_shore) (defScope s__law_shore) .none kV__law_shore dc__law_shore pm__law_shore an__law_shore cd__law_shore ct__law_shore), sl__law_shore⟩)
    (c__law_shore : PySem.W.codeIn K cd__law_shore "_law_shore" = true)
    (k__law_shore : PySem.W.keepIn K (.ref f__law_shore) = true)
    (a__law_steps : PySem.W.nsIn K mainGlobals "_law_steps" = some (some (.ref f__law_steps)))
    (l__law_steps : K.lookup f__law_steps = some ⟨oc__law_steps, od__law_steps, .func (PySem.W.fnOf "_law_steps" "_law_steps" (defArgs s__law_steps) (defBody s__law_steps) (defScope s__law_steps) .none kV__law_steps dc__law_steps pm__law_steps an__law_steps cd__law_steps ct__law_steps), sl__law_steps⟩)
    (c__law_steps : PySem.W.codeIn K cd__law_steps "_law_steps" = true)
    (k__law_steps : PySem.W.keepIn K (.ref f__law_steps) = true)
    (a__law_behind : PySem.W.nsIn K mainGlobals "_law_behind" = some (some (.ref f__law_behind)))
    (l__law_behind : K.lookup f__law_behind = some ⟨oc__law_behind, od__law_behind, .func (PySem.W.fnOf "_law_behind" "_law_behind" (defArgs s__law_behind) (defBody s__law_behind) (defScope s__law_behind) .none kV__law_behind dc__law_behind pm__law_behind an__law_behind cd__law_behind ct__law_behind), sl__law_behind⟩)
    (c__law_behind : PySem.W.codeIn K cd__law_behind "_law_behind" = true)
    (k__law_behind : PySem.W.keepIn K (.ref f__law_behind) = true)
    (a__law_begin : PySem.W.nsIn K mainGlobals "_law_begin" = some (some (.ref f__law_begin)))
    (l__law_begin : K.lookup f__law_begin = some ⟨oc__law_begin, od__law_begin, .func (PySem.W.fnOf "_law_begin" "_law_begin" (defArgs s__law_begin) (defBody s__law_begin) (defScope s__law_begin) .none kV__law_begin dc__law_begin pm__law_begin an__law_begin cd__law_begin ct__law_begin), sl__law_begin⟩)
    (c__law_begin : PySem.W.codeIn K cd__law_begin "_law_begin" = true)
    (k__law_begin : PySem.W.keepIn K (.ref f__law_begin) = true)
    (a__law_final : PySem.W.nsIn K mainGlobals "_law_final" = some (some (.ref f__law_final)))
    (l__law_final : K.lookup f__law_final = some ⟨oc__law_final, od__law_final, .func (PySem.W.fnOf "_law_final" "_law_final" (defArgs s__law_final) (defBody s__law_final) (defScope s__law_final) .none kV__law_final dc__law_final pm__law_final an__law_final cd__law_final ct__law_final), sl__law_final⟩)
    (c__law_final : PySem.W.codeIn K cd__law_final "_law_final" = true)
    (k__law_final : PySem.W.keepIn K (.ref f__law_final) = true)
    (a__law_signs : PySem.W.nsIn K mainGlobals "_law_signs" = some (some (.ref f__law_signs)))
    (l__law_signs : K.lookup f__law_signs = some ⟨oc__law_signs, od__law_signs, .func (PySem.W.fnOf "_law_signs" "_law_signs" (defArgs s__law_signs) (defBody s__law_signs) (defScope s__law_signs) .none kV__law_signs dc__law_signs pm__law_signs an__law_signs cd__law_signs ct__law_signs), sl__law_signs⟩)
    (c__law_signs : PySem.W.codeIn K cd__law_signs "_law_signs" = true)
    (k__law_signs : PySem.W.keepIn K (.ref f__law_signs) = true)
    (a__law_turns : PySem.W.nsIn K mainGlobals "_law_turns" = some (some (.ref f__law_turns)))
    (l__law_turns : K.lookup f__law_turns = some ⟨oc__law_turns, od__law_turns, .func (PySem.W.fnOf "_law_turns" "_law_turns" (defArgs s__law_turns) (defBody s__law_turns) (defScope s__law_turns) .none kV__law_turns dc__law_turns pm__law_turns an__law_turns cd__law_turns ct__law_turns), sl__law_turns⟩)
    (c__law_turns : PySem.W.codeIn K cd__law_turns "_law_turns" = true)
    (k__law_turns : PySem.W.keepIn K (.ref f__law_turns) = true)
    (a__law_one : PySem.W.nsIn K mainGlobals "_law_one" = some (some (.ref f__law_one)))
    (l__law_one : K.lookup f__law_one = some ⟨oc__law_one, od__law_one, .func (PySem.W.fnOf "_law_one" "_law_one" (defArgs s__law_one) (defBody s__law_one) (defScope s__law_one) .none kV__law_one dc__law_one pm__law_one an__law_one cd__law_one ct__law_one), sl__law_one⟩)
    (c__law_one : PySem.W.codeIn K cd__law_one "_law_one" = true)
    (k__law_one : PySem.W.keepIn K (.ref f__law_one) = true)
    (a__law_drawn : PySem.W.nsIn K mainGlobals "_law_drawn" = some (some (.ref f__law_drawn)))
    (l__law_drawn : K.lookup f__law_drawn = some ⟨oc__law_drawn, od__law_drawn, .func (PySem.W.fnOf "_law_drawn" "_law_drawn" (defArgs s__law_drawn) (defBody s__law_drawn) (defScope s__law_drawn) .none kV__law_drawn dc__law_drawn pm__law_drawn an__law_drawn cd__law_drawn ct__law_drawn), sl__law_drawn⟩)
    (c__law_drawn : PySem.W.codeIn K cd__law_drawn "_law_drawn" = true)
    (k__law_drawn : PySem.W.keepIn K (.ref f__law_drawn) = true)
    (a__law_parts : PySem.W.nsIn K mainGlobals "_law_parts" = some (some (.ref f__law_parts)))
    (l__law_parts : K.lookup f__law_parts = some ⟨oc__law_parts, od__law_parts, .func (PySem.W.fnOf "_law_parts" "_law_parts" (defArgs s__law_parts) (defBody s__law_parts) (defScope s__law_parts) .none kV__law_parts dc__law_parts pm__law_parts an__law_parts cd__law_parts ct__law_parts), sl__law_parts⟩)
    (c__law_parts : PySem.W.codeIn K cd__law_parts "_law_parts" = true)
    (k__law_parts : PySem.W.keepIn K (.ref f__law_parts) = true)
    (a__law_heads : PySem.W.nsIn K mainGlobals "_law_heads" = some (some (.ref f__law_heads)))
    (l__law_heads : K.lookup f__law_heads = some ⟨oc__law_heads, od__law_heads, .func (PySem.W.fnOf "_law_heads" "_law_heads" (defArgs s__law_heads) (defBody s__law_heads) (defScope s__law_heads) .none kV__law_heads dc__law_heads pm__law_heads an__law_heads cd__law_heads ct__law_heads), sl__law_heads⟩)
    (c__law_heads : PySem.W.codeIn K cd__law_heads "_law_heads" = true)
    (k__law_heads : PySem.W.keepIn K (.ref f__law_heads) = true)
    (a__law_wrong_index : PySem.W.nsIn K mainGlobals "_law_wrong_index" = some (some (.ref f__law_wrong_index)))
    (l__law_wrong_index : K.lookup f__law_wrong_index = some ⟨oc__law_wrong_index, od__law_wrong_index, .func (PySem.W.fnOf "_law_wrong_index" "_law_wrong_index" (defArgs s__law_wrong_index) (defBody s__law_wrong_index) (defScope s__law_wrong_index) .none kV__law_wrong_index dc__law_wrong_index pm__law_wrong_index an__law_wrong_index cd__law_wrong_index ct__law_wrong_index), sl__law_wrong_index⟩)
    (c__law_wrong_index : PySem.W.codeIn K cd__law_wrong_index "_law_wrong_index" = true)
    (k__law_wrong_index : PySem.W.keepIn K (.ref f__law_wrong_index) = true)
    (a__law_signs_code : PySem.W.nsIn K mainGlobals "_law_signs_code" = some (some (.ref f__law_signs_code)))
    (l__law_signs_code : K.lookup f__law_signs_code = some ⟨oc__law_signs_code, od__law_signs_code, .func (PySem.W.fnOf "_law_signs_code" "_law_signs_code" (defArgs s__law_signs_code) (defBody s__law_signs_code) (defScope s__law_signs_code) .none kV__law_signs_code dc__law_signs_code pm__law_signs_code an__law_signs_code cd__law_signs_code ct__law_signs_code), sl__law_signs_code⟩)
    (c__law_signs_code : PySem.W.codeIn K cd__law_signs_code "_law_signs_code" = true)
    (k__law_signs_code : PySem.W.keepIn K (.ref f__law_signs_code) = true)
    (a__law_sum : PySem.W.nsIn K mainGlobals "_law_sum" = some (some (.ref f__law_sum)))
    (l__law_sum : K.lookup f__law_sum = some ⟨oc__law_sum, od__law_sum, .func (PySem.W.fnOf "_law_sum" "_law_sum" (defArgs s__law_sum) (defBody s__law_sum) (defScope s__law_sum) .none kV__law_sum dc__law_sum pm__law_sum an__law_sum cd__law_sum ct__law_sum), sl__law_sum⟩)
    (c__law_sum : PySem.W.codeIn K cd__law_sum "_law_sum" = true)
    (k__law_sum : PySem.W.keepIn K (.ref f__law_sum) = true)
    (a__law_code : PySem.W.nsIn K mainGlobals "_law_code" = some (some (.ref f__law_code)))
    (l__law_code : K.lookup f__law_code = some ⟨oc__law_code, od__law_code, .func (PySem.W.fnOf "_law_code" "_law_code" (defArgs s__law_code) (defBody s__law_code) (defScope s__law_code) .none kV__law_code dc__law_code pm__law_code an__law_code cd__law_code ct__law_code), sl__law_code⟩)
    (c__law_code : PySem.W.codeIn K cd__law_code "_law_code" = true)
    (k__law_code : PySem.W.keepIn K (.ref f__law_code) = true)
    (a__law_pull : PySem.W.nsIn K mainGlobals "_law_pull" = some (some (.ref f__law_pull)))
    (l__law_pull : K.lookup f__law_pull = some ⟨oc__law_pull, od__law_pull, .func (PySem.W.fnOf "_law_pull" "_law_pull" (defArgs s__law_pull) (defBody s__law_pull) (defScope s__law_pull) .none kV__law_pull dc__law_pull pm__law_pull an__law_pull cd__law_pull ct__law_pull), sl__law_pull⟩)
    (c__law_pull : PySem.W.codeIn K cd__law_pull "_law_pull" = true)
    (k__law_pull : PySem.W.keepIn K (.ref f__law_pull) = true)
    (a__law_pull_signs : PySem.W.nsIn K mainGlobals "_law_pull_signs" = some (some (.ref f__law_pull_signs)))
    (l__law_pull_signs : K.lookup f__law_pull_signs = some ⟨oc__law_pull_signs, od__law_pull_signs, .func (PySem.W.fnOf "_law_pull_signs" "_law_pull_signs" (defArgs s__law_pull_signs) (defBody s__law_pull_signs) (defScope s__law_pull_signs) .none kV__law_pull_signs dc__law_pull_signs pm__law_pull_signs an__law_pull_signs cd__law_pull_signs ct__law_pull_signs), sl__law_pull_signs⟩)
    (c__law_pull_signs : PySem.W.codeIn K cd__law_pull_signs "_law_pull_signs" = true)
    (k__law_pull_signs : PySem.W.keepIn K (.ref f__law_pull_signs) = true)
    (a__law_pull_turns : PySem.W.nsIn K mainGlobals "_law_pull_turns" = some (some (.ref f__law_pull_turns)))
    (l__law_pull_turns : K.lookup f__law_pull_turns = some ⟨oc__law_pull_turns, od__law_pull_turns, .func (PySem.W.fnOf "_law_pull_turns" "_law_pull_turns" (defArgs s__law_pull_turns) (defBody s__law_pull_turns) (defScope s__law_pull_turns) .none kV__law_pull_turns dc__law_pull_turns pm__law_pull_turns an__law_pull_turns cd__law_pull_turns ct__law_pull_turns), sl__law_pull_turns⟩)
    (c__law_pull_turns : PySem.W.codeIn K cd__law_pull_turns "_law_pull_turns" = true)
    (k__law_pull_turns : PySem.W.keepIn K (.ref f__law_pull_turns) = true)
    (a__law_decoded : PySem.W.nsIn K mainGlobals "_law_decoded" = some (some (.ref f__law_decoded)))
    (l__law_decoded : K.lookup f__law_decoded = some ⟨oc__law_decoded, od__law_decoded, .func (PySem.W.fnOf "_law_decoded" "_law_decoded" (defArgs s__law_decoded) (defBody s__law_decoded) (defScope s__law_decoded) .none kV__law_decoded dc__law_decoded pm__law_decoded an__law_decoded cd__law_decoded ct__law_decoded), sl__law_decoded⟩)
    (c__law_decoded : PySem.W.codeIn K cd__law_decoded "_law_decoded" = true)
    (k__law_decoded : PySem.W.keepIn K (.ref f__law_decoded) = true)
    (a__law_wrong_signs : PySem.W.nsIn K mainGlobals "_law_wrong_signs" = some (some (.ref f__law_wrong_signs)))
    (l__law_wrong_signs : K.lookup f__law_wrong_signs = some ⟨oc__law_wrong_signs, od__law_wrong_signs, .func (PySem.W.fnOf "_law_wrong_signs" "_law_wrong_signs" (defArgs s__law_wrong_signs) (defBody s__law_wrong_signs) (defScope s__law_wrong_signs) .none kV__law_wrong_signs dc__law_wrong_signs pm__law_wrong_signs an__law_wrong_signs cd__law_wrong_signs ct__law_wrong_signs), sl__law_wrong_signs⟩)
    (c__law_wrong_signs : PySem.W.codeIn K cd__law_wrong_signs "_law_wrong_signs" = true)
    (k__law_wrong_signs : PySem.W.keepIn K (.ref f__law_wrong_signs) = true)
    (a__law_seen : PySem.W.nsIn K mainGlobals "_law_seen" = some (some (.ref f__law_seen)))
    (l__law_seen : K.lookup f__law_seen = some ⟨oc__law_seen, od__law_seen, .func (PySem.W.fnOf "_law_seen" "_law_seen" (defArgs s__law_seen) (defBody s__law_seen) (defScope s__law_seen) .none kV__law_seen dc__law_seen pm__law_seen an__law_seen cd__law_seen ct__law_seen), sl__law_seen⟩)
    (c__law_seen : PySem.W.codeIn K cd__law_seen "_law_seen" = true)
    (k__law_seen : PySem.W.keepIn K (.ref f__law_seen) = true)
    (a__law_due : PySem.W.nsIn K mainGlobals "_law_due" = some (some (.ref f__law_due)))
    (l__law_due : K.lookup f__law_due = some ⟨oc__law_due, od__law_due, .func (PySem.W.fnOf "_law_due" "_law_due" (defArgs s__law_due) (defBody s__law_due) (defScope s__law_due) .none kV__law_due dc__law_due pm__law_due an__law_due cd__law_due ct__law_due), sl__law_due⟩)
    (c__law_due : PySem.W.codeIn K cd__law_due "_law_due" = true)
    (k__law_due : PySem.W.keepIn K (.ref f__law_due) = true)
    (a_law : PySem.W.nsIn K mainGlobals "law" = some (some (.ref f_law)))
    (l_law : K.lookup f_law = some ⟨oc_law, od_law, .func (PySem.W.fnOf "law" "law" (defArgs s_law) (defBody s_law) (defScope s_law) .none kV_law dc_law pm_law an_law cd_law ct_law), sl_law⟩)
    (c_law : PySem.W.codeIn K cd_law "law" = true)
    (k_law : PySem.W.keepIn K (.ref f_law) = true)
    (a_C : PySem.W.nsIn K mainGlobals "Reader" = some (some (.ref C)))
    (a_CM : PySem.W.nsIn K mainGlobals "Map" = some (some (.ref CM)))
    (a_CI : PySem.W.nsIn K mainGlobals "Island" = some (some (.ref CI)))
    (a_CD : PySem.W.nsIn K mainGlobals "DecodeError" = some (some (.ref CD)))
    (a_CV : PySem.W.nsIn K mainGlobals "InvalidMap" = some (some (.ref CV)))
    (a_CE : PySem.W.nsIn K mainGlobals "MapError" = some (some (.ref CE)))
    (a_Island_init : PySem.W.findIn K (.ref CI) "__init__" = some (some (.ref f_Island_init)))
    (i_Island_init : PySem.W.isFn K (.ref f_Island_init) = true)
    (l_Island_init : K.lookup f_Island_init = some ⟨oc_Island_init, od_Island_init, .func (PySem.W.fnOf "__init__" "Island.__init__" (defArgs s_Island_init) (defBody s_Island_init) (defScope s_Island_init) .none kV_Island_init dc_Island_init pm_Island_init an_Island_init cd_Island_init ct_Island_init), sl_Island_init⟩)
    (c_Island_init : PySem.W.codeIn K cd_Island_init "Island.__init__" = true)
    (k_Island_init : PySem.W.keepIn K (.ref f_Island_init) = true)
    (a_Map_init : PySem.W.findIn K (.ref CM) "__init__" = some (some (.ref f_Map_init)))
    (i_Map_init : PySem.W.isFn K (.ref f_Map_init) = true)
    (l_Map_init : K.lookup f_Map_init = some ⟨oc_Map_init, od_Map_init, .func (PySem.W.fnOf "__init__" "Map.__init__" (defArgs s_Map_init) (defBody s_Map_init) (defScope s_Map_init) .none kV_Map_init dc_Map_init pm_Map_init an_Map_init cd_Map_init ct_Map_init), sl_Map_init⟩)
    (c_Map_init : PySem.W.codeIn K cd_Map_init "Map.__init__" = true)
    (k_Map_init : PySem.W.keepIn K (.ref f_Map_init) = true)
    (a_Reader_init : PySem.W.findIn K (.ref C) "__init__" = some (some (.ref f_Reader_init)))
    (i_Reader_init : PySem.W.isFn K (.ref f_Reader_init) = true)
    (l_Reader_init : K.lookup f_Reader_init = some ⟨oc_Reader_init, od_Reader_init, .func (PySem.W.fnOf "__init__" "Reader.__init__" (defArgs s_Reader_init) (defBody s_Reader_init) (defScope s_Reader_init) .none kV_Reader_init dc_Reader_init pm_Reader_init an_Reader_init cd_Reader_init ct_Reader_init), sl_Reader_init⟩)
    (c_Reader_init : PySem.W.codeIn K cd_Reader_init "Reader.__init__" = true)
    (k_Reader_init : PySem.W.keepIn K (.ref f_Reader_init) = true)
    (a_Reader_take : PySem.W.findIn K (.ref C) "take" = some (some (.ref f_Reader_take)))
    (i_Reader_take : PySem.W.isFn K (.ref f_Reader_take) = true)
    (l_Reader_take : K.lookup f_Reader_take = some ⟨oc_Reader_take, od_Reader_take, .func (PySem.W.fnOf "take" "Reader.take" (defArgs s_Reader_take) (defBody s_Reader_take) (defScope s_Reader_take) .none kV_Reader_take dc_Reader_take pm_Reader_take an_Reader_take cd_Reader_take ct_Reader_take), sl_Reader_take⟩)
    (c_Reader_take : PySem.W.codeIn K cd_Reader_take "Reader.take" = true)
    (k_Reader_take : PySem.W.keepIn K (.ref f_Reader_take) = true)
    (a_Reader_take_signs : PySem.W.findIn K (.ref C) "take_signs" = some (some (.ref f_Reader_take_signs)))
    (i_Reader_take_signs : PySem.W.isFn K (.ref f_Reader_take_signs) = true)
    (l_Reader_take_signs : K.lookup f_Reader_take_signs = some ⟨oc_Reader_take_signs, od_Reader_take_signs, .func (PySem.W.fnOf "take_signs" "Reader.take_signs" (defArgs s_Reader_take_signs) (defBody s_Reader_take_signs) (defScope s_Reader_take_signs) .none kV_Reader_take_signs dc_Reader_take_signs pm_Reader_take_signs an_Reader_take_signs cd_Reader_take_signs ct_Reader_take_signs), sl_Reader_take_signs⟩)
    (c_Reader_take_signs : PySem.W.codeIn K cd_Reader_take_signs "Reader.take_signs" = true)
    (k_Reader_take_signs : PySem.W.keepIn K (.ref f_Reader_take_signs) = true)
    (a_Reader_take_turns : PySem.W.findIn K (.ref C) "take_turns" = some (some (.ref f_Reader_take_turns)))
    (i_Reader_take_turns : PySem.W.isFn K (.ref f_Reader_take_turns) = true)
    (l_Reader_take_turns : K.lookup f_Reader_take_turns = some ⟨oc_Reader_take_turns, od_Reader_take_turns, .func (PySem.W.fnOf "take_turns" "Reader.take_turns" (defArgs s_Reader_take_turns) (defBody s_Reader_take_turns) (defScope s_Reader_take_turns) .none kV_Reader_take_turns dc_Reader_take_turns pm_Reader_take_turns an_Reader_take_turns cd_Reader_take_turns ct_Reader_take_turns), sl_Reader_take_turns⟩)
    (c_Reader_take_turns : PySem.W.codeIn K cd_Reader_take_turns "Reader.take_turns" = true)
    (k_Reader_take_turns : PySem.W.keepIn K (.ref f_Reader_take_turns) = true)
    (a_Reader_take_instruction : PySem.W.findIn K (.ref C) "take_instruction" = some (some (.ref f_Reader_take_instruction)))
    (i_Reader_take_instruction : PySem.W.isFn K (.ref f_Reader_take_instruction) = true)
    (l_Reader_take_instruction : K.lookup f_Reader_take_instruction = some ⟨oc_Reader_take_instruction, od_Reader_take_instruction, .func (PySem.W.fnOf "take_instruction" "Reader.take_instruction" (defArgs s_Reader_take_instruction) (defBody s_Reader_take_instruction) (defScope s_Reader_take_instruction) .none kV_Reader_take_instruction dc_Reader_take_instruction pm_Reader_take_instruction an_Reader_take_instruction cd_Reader_take_instruction ct_Reader_take_instruction), sl_Reader_take_instruction⟩)
    (c_Reader_take_instruction : PySem.W.codeIn K cd_Reader_take_instruction "Reader.take_instruction" = true)
    (k_Reader_take_instruction : PySem.W.keepIn K (.ref f_Reader_take_instruction) = true)
    (a_Map_island : PySem.W.findIn K (.ref CM) "island" = some (some (.ref q_Map_island)))
    (g_Map_island : PySem.W.specialIn K (.ref q_Map_island) "__get__" = some (some (.builtin "property.__get__")))
    (t_Map_island : PySem.W.takesIn K (.ref q_Map_island) = some true)
    (r1_Map_island : PySem.W.recIn K q_Map_island "property" = some (.ref f_Map_island :: r_Map_island))
    (l_Map_island : K.lookup f_Map_island = some ⟨oc_Map_island, od_Map_island, .func (PySem.W.fnOf "island" "Map.island" (defArgs s_Map_island) (defBody s_Map_island) (defScope s_Map_island) .none kV_Map_island dc_Map_island pm_Map_island an_Map_island cd_Map_island ct_Map_island), sl_Map_island⟩)
    (c_Map_island : PySem.W.codeIn K cd_Map_island "Map.island" = true)
    (k_Map_island : PySem.W.keepIn K (.ref f_Map_island) = true)
    (a_Map_signs : PySem.W.findIn K (.ref CM) "signs" = some (some (.ref q_Map_signs)))
    (g_Map_signs : PySem.W.specialIn K (.ref q_Map_signs) "__get__" = some (some (.builtin "property.__get__")))
    (t_Map_signs : PySem.W.takesIn K (.ref q_Map_signs) = some true)
    (r1_Map_signs : PySem.W.recIn K q_Map_signs "property" = some (.ref f_Map_signs :: r_Map_signs))
    (l_Map_signs : K.lookup f_Map_signs = some ⟨oc_Map_signs, od_Map_signs, .func (PySem.W.fnOf "signs" "Map.signs" (defArgs s_Map_signs) (defBody s_Map_signs) (defScope s_Map_signs) .none kV_Map_signs dc_Map_signs pm_Map_signs an_Map_signs cd_Map_signs ct_Map_signs), sl_Map_signs⟩)
    (c_Map_signs : PySem.W.codeIn K cd_Map_signs "Map.signs" = true)
    (k_Map_signs : PySem.W.keepIn K (.ref f_Map_signs) = true)
    (a_Map_facings : PySem.W.findIn K (.ref CM) "facings" = some (some (.ref q_Map_facings)))
    (g_Map_facings : PySem.W.specialIn K (.ref q_Map_facings) "__get__" = some (some (.builtin "property.__get__")))
    (t_Map_facings : PySem.W.takesIn K (.ref q_Map_facings) = some true)
    (r1_Map_facings : PySem.W.recIn K q_Map_facings "property" = some (.ref f_Map_facings :: r_Map_facings))
    (l_Map_facings : K.lookup f_Map_facings = some ⟨oc_Map_facings, od_Map_facings, .func (PySem.W.fnOf "facings" "Map.facings" (defArgs s_Map_facings) (defBody s_Map_facings) (defScope s_Map_facings) .none kV_Map_facings dc_Map_facings pm_Map_facings an_Map_facings cd_Map_facings ct_Map_facings), sl_Map_facings⟩)
    (c_Map_facings : PySem.W.codeIn K cd_Map_facings "Map.facings" = true)
    (k_Map_facings : PySem.W.keepIn K (.ref f_Map_facings) = true)
    (a_Map_instructions : PySem.W.findIn K (.ref CM) "instructions" = some (some (.ref q_Map_instructions)))
    (g_Map_instructions : PySem.W.specialIn K (.ref q_Map_instructions) "__get__" = some (some (.builtin "property.__get__")))
    (t_Map_instructions : PySem.W.takesIn K (.ref q_Map_instructions) = some true)
    (r1_Map_instructions : PySem.W.recIn K q_Map_instructions "property" = some (.ref f_Map_instructions :: r_Map_instructions))
    (l_Map_instructions : K.lookup f_Map_instructions = some ⟨oc_Map_instructions, od_Map_instructions, .func (PySem.W.fnOf "instructions" "Map.instructions" (defArgs s_Map_instructions) (defBody s_Map_instructions) (defScope s_Map_instructions) .none kV_Map_instructions dc_Map_instructions pm_Map_instructions an_Map_instructions cd_Map_instructions ct_Map_instructions), sl_Map_instructions⟩)
    (c_Map_instructions : PySem.W.codeIn K cd_Map_instructions "Map.instructions" = true)
    (k_Map_instructions : PySem.W.keepIn K (.ref f_Map_instructions) = true)
    (a_Island_rows : PySem.W.findIn K (.ref CI) "rows" = some (some (.ref q_Island_rows)))
    (g_Island_rows : PySem.W.specialIn K (.ref q_Island_rows) "__get__" = some (some (.builtin "property.__get__")))
    (t_Island_rows : PySem.W.takesIn K (.ref q_Island_rows) = some true)
    (r1_Island_rows : PySem.W.recIn K q_Island_rows "property" = some (.ref f_Island_rows :: r_Island_rows))
    (l_Island_rows : K.lookup f_Island_rows = some ⟨oc_Island_rows, od_Island_rows, .func (PySem.W.fnOf "rows" "Island.rows" (defArgs s_Island_rows) (defBody s_Island_rows) (defScope s_Island_rows) .none kV_Island_rows dc_Island_rows pm_Island_rows an_Island_rows cd_Island_rows ct_Island_rows), sl_Island_rows⟩)
    (c_Island_rows : PySem.W.codeIn K cd_Island_rows "Island.rows" = true)
    (k_Island_rows : PySem.W.keepIn K (.ref f_Island_rows) = true)
    (z_len : PySem.W.nsIn K mainGlobals "len" = some none)
    (z_int : PySem.W.nsIn K mainGlobals "int" = some none)
    (z_bool : PySem.W.nsIn K mainGlobals "bool" = some none)
    (z_dict : PySem.W.nsIn K mainGlobals "dict" = some none)
    (z_tuple : PySem.W.nsIn K mainGlobals "tuple" = some none)
    (z_list : PySem.W.nsIn K mainGlobals "list" = some none)
    (z_str : PySem.W.nsIn K mainGlobals "str" = some none)
    (z_isinstance : PySem.W.nsIn K mainGlobals "isinstance" = some none)
    (z_range : PySem.W.nsIn K mainGlobals "range" = some none)
    (z_max : PySem.W.nsIn K mainGlobals "max" = some none)
    (z_min : PySem.W.nsIn K mainGlobals "min" = some none)
    (z_abs : PySem.W.nsIn K mainGlobals "abs" = some none)
    (z_zip : PySem.W.nsIn K mainGlobals "zip" = some none)
    (z_all : PySem.W.nsIn K mainGlobals "all" = some none)
    (z_enumerate : PySem.W.nsIn K mainGlobals "enumerate" = some none)
    (z_sorted : PySem.W.nsIn K mainGlobals "sorted" = some none)
    (z_set : PySem.W.nsIn K mainGlobals "set" = some none)
    (z_super : PySem.W.nsIn K mainGlobals "super" = some none)
    (n_CHECK : PySem.W.nsIn K mainGlobals "CHECK" = some (some (.int 241 t_CHECK)))
    (n_MAX_PACES : PySem.W.nsIn K mainGlobals "MAX_PACES" = some (some (.int 20 t_MAX_PACES)))
    (n_MAX_SIZE : PySem.W.nsIn K mainGlobals "MAX_SIZE" = some (some (.int 12 t_MAX_SIZE)))
    (n_MAX_FAR : PySem.W.nsIn K mainGlobals "MAX_FAR" = some (some (.int 22 t_MAX_FAR)))
    (n_RIGHT : PySem.W.nsIn K mainGlobals "RIGHT" = some (some (.int 1 t_RIGHT)))
    (n_LEFT : PySem.W.nsIn K mainGlobals "LEFT" = some (some (.int 3 t_LEFT)))
    (n_MAX_INSTRUCTIONS : PySem.W.nsIn K mainGlobals "MAX_INSTRUCTIONS" = some (some (.int 20 t_MAX_INSTRUCTIONS)))
    (n_FIRST : PySem.W.nsIn K mainGlobals "FIRST" = some (some (.int 79 t_FIRST)))
    (n_MAX_CODE : PySem.W.nsIn K mainGlobals "MAX_CODE" = some (some (.int 99 t_MAX_CODE)))
    (n_LAND : PySem.W.nsIn K mainGlobals "LAND" = some (some (.str "." t_LAND)))
    (n_WATER : PySem.W.nsIn K mainGlobals "WATER" = some (some (.str "~" t_WATER)))
    (n_LETTERS : PySem.W.nsIn K mainGlobals "LETTERS" = some (some (.str "ABCDEFGHIJKLMNOPQRSTUVWXYZ" t_LETTERS)))
    (n_SIGNS : PySem.W.nsIn K mainGlobals "SIGNS" = some (some (.str ".~ABCDEFGHIJKLMNOPQRSTUVWXYZ" t_SIGNS)))
    (n_TURN : PySem.W.nsIn K mainGlobals "TURN" = some (some (.str "turn" t_TURN)))
    (n_WALK : PySem.W.nsIn K mainGlobals "WALK" = some (some (.str "walk" t_WALK)))
    (n_UNTIL : PySem.W.nsIn K mainGlobals "UNTIL" = some (some (.str "until" t_UNTIL)))
    (n_TOWARD : PySem.W.nsIn K mainGlobals "TOWARD" = some (some (.str "toward" t_TOWARD)))
    (n_BESIDE : PySem.W.nsIn K mainGlobals "BESIDE" = some (some (.str "beside" t_BESIDE)))
    (n_NEAR : PySem.W.nsIn K mainGlobals "NEAR" = some (some (.str "near" t_NEAR)))
    (a_HEADS : PySem.W.nsIn K mainGlobals "HEADS" = some (some (.ref hA)))
    (l_HEADS : K.lookup hA = some ⟨.type "tuple", d_HEADS, .seq #[.str "turn" t0_HEADS, .str "walk" t1_HEADS, .str "until" t2_HEADS, .str "toward" t3_HEADS, .str "beside" t4_HEADS, .str "near" t5_HEADS, .str "shore" t6_HEADS] n_HEADS, sl_HEADS⟩)
    (a_FORMS : PySem.W.nsIn K mainGlobals "FORMS" = some (some (.ref oA)))
    (l_FORMS : K.lookup oA = some ⟨.type "dict", none, .dict es nD, #[]⟩)
    (lit : PySem.W.KeysLit w.params es.toList)
    (low : (oA == sysModules) = false)
    (a_fo0 : PySem.W.nsIn K oA "turn" = some (some (.ref fo_0)))
    (l_fo0 : K.lookup fo_0 = some ⟨.type "tuple", d_fo0, .seq #[.str "numbers" t0_fo0] n_fo0, sl_fo0⟩)
    (a_fo1 : PySem.W.nsIn K oA "walk" = some (some (.ref fo_1)))
    (l_fo1 : K.lookup fo_1 = some ⟨.type "tuple", d_fo1, .seq #[.str "number" t0_fo1, .str "number" t1_fo1] n_fo1, sl_fo1⟩)
    (a_fo2 : PySem.W.nsIn K oA "until" = some (some (.ref fo_2)))
    (l_fo2 : K.lookup fo_2 = some ⟨.type "tuple", d_fo2, .seq #[.str "signs" t0_fo2] n_fo2, sl_fo2⟩)
    (a_fo3 : PySem.W.nsIn K oA "toward" = some (some (.ref fo_3)))
    (l_fo3 : K.lookup fo_3 = some ⟨.type "tuple", d_fo3, .seq #[.str "signs" t0_fo3] n_fo3, sl_fo3⟩)
    (a_fo4 : PySem.W.nsIn K oA "beside" = some (some (.ref fo_4)))
    (l_fo4 : K.lookup fo_4 = some ⟨.type "tuple", d_fo4, .seq #[.str "number" t0_fo4, .str "all" t1_fo4] n_fo4, sl_fo4⟩)
    (a_fo5 : PySem.W.nsIn K oA "near" = some (some (.ref fo_5)))
    (l_fo5 : K.lookup fo_5 = some ⟨.type "tuple", d_fo5, .seq #[.str "all" t0_fo5, .str "number" t1_fo5] n_fo5, sl_fo5⟩)
    (a_fo6 : PySem.W.nsIn K oA "shore" = some (some (.ref fo_6)))
    (l_fo6 : K.lookup fo_6 = some ⟨.type "tuple", d_fo6, .seq #[.str "number" t0_fo6, .str "number" t1_fo6, .str "number" t2_fo6] n_fo6, sl_fo6⟩)
    (x1D : K.lookup CD = some (excClassObj xnmD xqD CD xND xbsD xbmD true xsnD xsubD xabD xcolD xddD xk0D xk1D xk2D xk3D xk5D "ValueError.__new__"))
    (x2D : PySem.HandSPX.refsVE xbmD = true)
    (x3D : PySem.W.findIn K (.ref CD) "__setattr__" = some (some (.builtin "object.__setattr__")))
    (x4D : PySem.W.findIn K (.ref CD) "offset" = some none)
    (x5D : PySem.W.findIn K (.ref CD) "__init__" = some (some (.ref fI_D)))
    (x6D : PySem.W.typeIn K (.ref fI_D) = some (.type "function"))
    (x7D : PySem.W.keepIn K (.ref CD) = true)
    (x8D : PySem.W.subIn K (.ref CD) (.type "BaseException") = some true)
    (x9D : PySem.W.typeIn K (.ref CD) = some (.type "type"))
    (x10D : PySem.W.subIn K (.ref CD) (.type "ValueError") = some true)
    (x12D : PySem.W.ks_superIn K CD CD "__init__" = some (some (.builtin "ValueError.__init__")))
    (x13D : PySem.W.mroIn K CD (.ref CD) = some true)
    (x14D : K.lookup fI_D = some ⟨xocD, xodD, .func (PySem.W.ksFn "__init__" "DecodeError.__init__" (defArgs s_dec) (defBody s_dec) (defScope s_dec) .none .none xdocD xpmD xanD (.ref xcdaD) xctD xccD), xoslD⟩)
    (x15D : PySem.W.codeIn K (.ref xcdaD) "DecodeError.__init__" = true)
    (x16D : K.lookup xcdaD = some ⟨xcclD, xcddD, .fields xvsD, xccsD⟩)
    (x17D : xvsD[2]? = some (.str xfileD xtfD))
    (x18D : ((P.main.file : Str) == xfileD) = true)
    (x19D : K.lookup xccD = some ⟨xclD, xcldD, .cell (some (.ref CD)), xcslD⟩)
    (x20D : PySem.W.findIn K (.ref CD) "__getattribute__" = some (some (.builtin "BaseException.__getattribute__")))
    (x21D : PySem.W.findIn K (.ref CD) "__getattr__" = some none)
    (x22D : PySem.W.findIn K (.ref CD) "__class__" = some (some (.builtin "object.__class__")))
    (x23D : PySem.W.mroIn K CD (.type "object") = some true)
    (x24D : PySem.W.hasDictIn K CD = true)
    (x25D : (PySem.W.clsIn K CD).isSome = true)
    (x26D : PySem.W.exmOne K (.ref CD) (.ref CE) = some true)
    (x1V : K.lookup CV = some (excClassObj xnmV xqV CV xNV xbsV xbmV true xsnV xsubV xabV xcolV xddV xk0V xk1V xk2V xk3V xk5V "ValueError.__new__"))
    (x2V : PySem.HandSPX.refsVE xbmV = true)
    (x3V : PySem.W.findIn K (.ref CV) "__setattr__" = some (some (.builtin "object.__setattr__")))
    (x4V : PySem.W.findIn K (.ref CV) "index" = some none)
    (x5V : PySem.W.findIn K (.ref CV) "__init__" = some (some (.ref fI_V)))
    (x6V : PySem.W.typeIn K (.ref fI_V) = some (.type "function"))
    (x7V : PySem.W.keepIn K (.ref CV) = true)
    (x8V : PySem.W.subIn K (.ref CV) (.type "BaseException") = some true)
    (x9V : PySem.W.typeIn K (.ref CV) = some (.type "type"))
    (x10V : PySem.W.subIn K (.ref CV) (.type "ValueError") = some true)
    (x12V : PySem.W.ks_superIn K CV CV "__init__" = some (some (.builtin "ValueError.__init__")))
    (x13V : PySem.W.mroIn K CV (.ref CV) = some true)
    (x14V : K.lookup fI_V = some ⟨xocV, xodV, .func (PySem.W.ksFn "__init__" "InvalidMap.__init__" (defArgs s_inv) (defBody s_inv) (defScope s_inv) .none .none xdocV xpmV xanV (.ref xcdaV) xctV xccV), xoslV⟩)
    (x15V : PySem.W.codeIn K (.ref xcdaV) "InvalidMap.__init__" = true)
    (x16V : K.lookup xcdaV = some ⟨xcclV, xcddV, .fields xvsV, xccsV⟩)
    (x17V : xvsV[2]? = some (.str xfileV xtfV))
    (x18V : ((P.main.file : Str) == xfileV) = true)
    (x19V : K.lookup xccV = some ⟨xclV, xcldV, .cell (some (.ref CV)), xcslV⟩)
    (x20V : PySem.W.findIn K (.ref CV) "__getattribute__" = some (some (.builtin "BaseException.__getattribute__")))
    (x21V : PySem.W.findIn K (.ref CV) "__getattr__" = some none)
    (x22V : PySem.W.findIn K (.ref CV) "__class__" = some (some (.builtin "object.__class__")))
    (x23V : PySem.W.mroIn K CV (.type "object") = some true)
    (x24V : PySem.W.hasDictIn K CV = true)
    (x25V : (PySem.W.clsIn K CV).isSome = true)
    (x26V : PySem.W.exmOne K (.ref CV) (.ref CE) = some true)
    (opq : PySem.W.nsIn K cStatics "thirdparty.any" = some none)
    (top_ : (P.main.scope.names.lookup ("super" : Str)).isSome = false)
    (y1 : PySem.W.specialIn K (.builtin "object.__class__") "__get__" = some (some (.builtin "getset_descriptor.__get__")))
    (y2 : PySem.W.takesIn K (.builtin "object.__class__") = some true)
    (y3 : PySem.W.kitOne K (.ref CD) (.ref CD) = some true)
    (y4 : PySem.W.kitOne K (.ref CV) (.ref CD) = some false)
    (y5 : PySem.W.kitOne K (.ref CV) (.ref CV) = some true)
    (y6 : PySem.W.kitOne K (.ref CM) (.ref CM) = some true)
    (y7 : PySem.W.findIn K (.ref CM) "__class__" = some (some (.builtin "object.__class__")))
    (y8 : PySem.W.mroIn K CM (.type "object") = some true)
    (pg_CM : PySem.W.plainGet K CM Str.empty = true)
    (hd_CM : PySem.W.hasDictIn K CM = true)
    (po_CM : PySem.W.plainOver K CM = true)
    (sa_CM : PySem.W.findIn K (.ref CM) "__setattr__" = some (some (.builtin "object.__setattr__")))
    (pg_CI : PySem.W.plainGet K CI Str.empty = true)
    (hd_CI : PySem.W.hasDictIn K CI = true)
    (po_CI : PySem.W.plainOver K CI = true)
    (sa_CI : PySem.W.findIn K (.ref CI) "__setattr__" = some (some (.builtin "object.__setattr__")))
    (pg_C : PySem.W.plainGet K C Str.empty = true)
    (ic_C : PySem.W.isClsIn K C = true)
    (po_C : PySem.W.plainOver K C = true)
    (sa_C : PySem.W.findIn K (.ref C) "__setattr__" = some (some (.builtin "object.__setattr__")))
    (mk_C : PySem.W.makesIn K C = true)
    (kc_C : PySem.W.keepIn K (.ref C) = true)
    (mk_CM : PySem.W.makesIn K CM = true)
    (kc_CM : PySem.W.keepIn K (.ref CM) = true)
    (mk_CI : PySem.W.makesIn K CI = true)
    (kc_CI : PySem.W.keepIn K (.ref CI) = true)
    (na_own_island : PySem.W.findIn K (.ref CM) "own_island" = some none)
    (na_own_signs : PySem.W.findIn K (.ref CM) "own_signs" = some none)
    (na_own_facings : PySem.W.findIn K (.ref CM) "own_facings" = some none)
    (na_own_instructions : PySem.W.findIn K (.ref CM) "own_instructions" = some none)
    (na_own_rows : PySem.W.findIn K (.ref CI) "own_rows" = some none)
    (s1_codes : PySem.W.findIn K (.ref C) "codes" = some (some (.ref p0)))
    (s2_codes : PySem.W.specialIn K (.ref p0) "__get__" = some (some (.builtin "member_descriptor.__get__")))
    (s3_codes : PySem.W.takesIn K (.ref p0) = some true)
    (s4_codes : PySem.W.typeIn K (.ref p0) = some (.type "member_descriptor"))
    (s5_codes : PySem.W.slotIn K p0 C = some 0)
    (s1_offset : PySem.W.findIn K (.ref C) "offset" = some (some (.ref p1)))
    (s2_offset : PySem.W.specialIn K (.ref p1) "__get__" = some (some (.builtin "member_descriptor.__get__")))
    (s3_offset : PySem.W.takesIn K (.ref p1) = some true)
    (s4_offset : PySem.W.typeIn K (.ref p1) = some (.type "member_descriptor"))
    (s5_offset : PySem.W.slotIn K p1 C = some 1)
    : ∃ fd : FuncData, (∀ (s : Shared) (v : Value), BindsTo s fd ⟨[v], []⟩ [("_law_script", v)]) ∧ ∀ base : Heap, K.In base → base.Ns mainGlobals mg → FnOk P w K mg base CX0 8 fa fd ["_law_script"] (spLaw K) := by
  have e := hfa.symm.trans (PySem.W.mg_of X G a_law)
  cases e
  have F : DefsAt K mg := z_F (P := P) (w := w) X G a_is_number l_is_number c_is_number k_is_number a_is_rising l_is_rising c_is_rising k_is_rising a_are_signs l_are_signs c_are_signs k_are_signs a_are_turns l_are_turns c_are_turns k_are_turns a_is_range l_is_range c_is_range k_is_range a_is_instruction l_is_instruction c_is_instruction k_is_instruction a_checksum l_checksum c_checksum k_checksum a_decode_map l_decode_map c_decode_map k_decode_map a__law_mix l__law_mix c__law_mix k__law_mix a__law_next l__law_next c__law_next k__law_next a__law_alike l__law_alike c__law_alike k__law_alike a__law_rows l__law_rows c__law_rows k__law_rows a__law_sign l__law_sign c__law_sign k__law_sign a__law_cells l__law_cells c__law_cells k__law_cells a__law_on l__law_on c__law_on k__law_on a__law_line l__law_line c__law_line k__law_line a__law_shore l__law_shore c__law_shore k__law_shore a__law_steps l__law_steps c__law_steps k__law_steps a__law_behind l__law_behind c__law_behind k__law_behind a__law_begin l__law_begin c__law_begin k__law_begin a__law_final l__law_final c__law_final k__law_final a__law_signs l__law_signs c__law_signs k__law_signs a__law_turns l__law_turns c__law_turns k__law_turns a__law_one l__law_one c__law_one k__law_one a__law_drawn l__law_drawn c__law_drawn k__law_drawn a__law_parts l__law_parts c__law_parts k__law_parts a__law_heads l__law_heads c__law_heads k__law_heads a__law_wrong_index l__law_wrong_index c__law_wrong_index k__law_wrong_index a__law_signs_code l__law_signs_code c__law_signs_code k__law_signs_code a__law_sum l__law_sum c__law_sum k__law_sum a__law_code l__law_code c__law_code k__law_code a__law_pull l__law_pull c__law_pull k__law_pull a__law_pull_signs l__law_pull_signs c__law_pull_signs k__law_pull_signs a__law_pull_turns l__law_pull_turns c__law_pull_turns k__law_pull_turns a__law_decoded l__law_decoded c__law_decoded k__law_decoded a__law_wrong_signs l__law_wrong_signs c__law_wrong_signs k__law_wrong_signs a__law_seen l__law_seen c__law_seen k__law_seen a__law_due l__law_due c__law_due k__law_due
  have M : MetsAt K C CM CI := z_M (P := P) (w := w) X G a_Island_init i_Island_init l_Island_init c_Island_init k_Island_init a_Map_init i_Map_init l_Map_init c_Map_init k_Map_init a_Reader_init i_Reader_init l_Reader_init c_Reader_init k_Reader_init a_Reader_take i_Reader_take l_Reader_take c_Reader_take k_Reader_take a_Reader_take_signs i_Reader_take_signs l_Reader_take_signs c_Reader_take_signs k_Reader_take_signs a_Reader_take_turns i_Reader_take_turns l_Reader_take_turns c_Reader_take_turns k_Reader_take_turns a_Reader_take_instruction i_Reader_take_instruction l_Reader_take_instruction c_Reader_take_instruction k_Reader_take_instruction a_Map_island g_Map_island t_Map_island r1_Map_island l_Map_island c_Map_island k_Map_island a_Map_signs g_Map_signs t_Map_signs r1_Map_signs l_Map_signs c_Map_signs k_Map_signs a_Map_facings g_Map_facings t_Map_facings r1_Map_facings l_Map_facings c_Map_facings k_Map_facings a_Map_instructions g_Map_instructions t_Map_instructions r1_Map_instructions l_Map_instructions c_Map_instructions k_Map_instructions a_Island_rows g_Island_rows t_Island_rows r1_Island_rows l_Island_rows c_Island_rows k_Island_rows
  have U : Txt K mg := z_U (P := P) (w := w) X G z_len z_int z_bool z_dict z_tuple z_list z_str z_isinstance z_range z_max z_min z_abs z_zip z_all z_enumerate z_sorted z_set n_CHECK n_MAX_PACES
  have Q : PTxt K mg := z_Q (P := P) (w := w) X G U n_MAX_SIZE n_MAX_FAR n_RIGHT n_LEFT n_MAX_INSTRUCTIONS n_FIRST n_MAX_CODE n_LAND n_WATER n_LETTERS n_SIGNS n_TURN n_WALK n_UNTIL n_TOWARD n_BESIDE n_NEAR
  have TD : KwT P K mg s_dec "DecodeError" "DecodeError.__init__" "a code is malformed" "offset" CD fI_D := z_TD (P := P) (w := w) X G a_CD z_super x1D x2D x3D x4D x5D x6D x7D x8D x9D x10D x12D x13D x14D x15D x16D x17D x18D x19D opq top_
  have ED : ExK K CD := z_ED (P := P) (w := w) X G x8D x20D x21D x22D x23D x24D x25D y1 y2
  have TV : KwT P K mg s_inv "InvalidMap" "InvalidMap.__init__" "a map is invalid" "index" CV fI_V := z_TV (P := P) (w := w) X G a_CV z_super x1V x2V x3V x4V x5V x6V x7V x8V x9V x10V x12V x13V x14V x15V x16V x17V x18V x19V opq top_
  have EV : ExK K CV := z_EV (P := P) (w := w) X G x8V x20V x21V x22V x23V x24V x25V y1 y2
  have XT : XTxt P K mg CD fI_D CV fI_V := z_XT (P := P) (w := w) X G Q TD TV
  have FA : ∀ k < 7, ∃ fa : Addr, PySem.W.nsIn K oA (hdw k) = some (some (.ref fa)) ∧ ∀ H, SqT K H fa ((frm k).map fun c => V.str (fnm c)) := z_FA (P := P) (w := w) X G a_fo0 l_fo0 a_fo1 l_fo1 a_fo2 l_fo2 a_fo3 l_fo3 a_fo4 l_fo4 a_fo5 l_fo5 a_fo6 l_fo6
  have TT : TTxt P w K mg CD fI_D CV fI_V hA oA es nD := z_TT (P := P) (w := w) X G XT FA a_HEADS l_HEADS a_FORMS l_FORMS lit low
  have RC : RdC K mg C p0 p1 := z_RC (P := P) (w := w) X G a_C a_Reader_init i_Reader_init pg_C ic_C po_C sa_C mk_C kc_C s1_codes s2_codes s3_codes s4_codes s5_codes s1_offset s2_offset s3_offset s4_offset s5_offset
  have IC : IslC K mg CI := z_IC (P := P) (w := w) X G a_CI a_Island_init i_Island_init pg_CI hd_CI po_CI sa_CI mk_CI kc_CI na_own_rows
  have MC : MapC K mg CM := z_MC (P := P) (w := w) X G a_CM a_Map_init i_Map_init pg_CM hd_CM po_CM sa_CM mk_CM kc_CM na_own_island na_own_signs na_own_facings na_own_instructions
  have S : SeenC K mg CM CI CD CV CE := z_S (P := P) (w := w) X G ED EV a_CD a_CV a_CE x4D x26D x4V x26V y3 y4 y5 y6 y7 y8
  exact ⟨_, fun s v => .of_eq rfl, fun base _ _ => all_ok (fun_mk l_law c_law k_law) F M TT RC IC MC S⟩
theorem walk {l : PySem.W.OpenLaw} {q : Program} {loose : List Str} {XP : (Str → Option Value) → Heap → Prop} {YP : World → Heap → Prop} {d : DefRec} {K : Params → PySem.W.Frag} (hn : l.most = some 63) (hdf : d.params.defaults = [])
    (hY : ∀ (w : World) (h : Heap), YP w h → (K w.params).In h)
    (F : ∀ (w : World) (mg : Str → Option Value) (fa : Addr) (h : Heap), (K w.params).In h → h.Ns mainGlobals mg → mg d.name = some (.ref fa) →
      ∃ fd : FuncData, (∀ (s : Shared) (u : Value), BindsTo s fd ⟨[u], []⟩ [("_law_script", u)]) ∧ ∀ base : Heap, (K w.params).In base → base.Ns mainGlobals mg → FnOk l.prog w (K w.params) mg base CX0 8 fa fd ["_law_script"] (spLaw (K w.params))) :
    PySem.W.WalkO q loose XP YP l.row.toRowW d [] (fun f vs => PySem.call f vs) :=
  L2.walk_of (n := 63) (k := 8) (x := "_law_script") (CX := fun _ => CX0) (sp := fun w => spLaw (K w.params)) hn (by decide) hdf ⟨rfl, by decide, by decide⟩ hY F (fun _ _ a ns hl _ hS => ⟨a, ns, rfl, hS, hl, fun _ => rfl⟩) fun _ _ _ _ _ z => z
end
end K52
set_option maxHeartbeats 0
section
open PySem PySem.W PyProof.Rows
open_top head for PySem.Challenge.rw_oldmap_k52_whole_wrong_codes_located
end
open PySem PySem.W PyProof.Rows
set_option maxRecDepth 100000 in
set_option maxHeartbeats 0 in
theorem PySem.Challenge.cw_oldmap_k52_whole_wrong_codes_located_holds : PySem.Challenge.rw_oldmap_k52_whole_wrong_codes_located.Holds := by
  refine head ?_
  k_fill
  refine K52.walk (l := PySem.Challenge.rw_oldmap_k52_whole_wrong_codes_located) rfl rfl (fun w h Y => PySem.W.kIn_of Y) ?F
  case F =>
    intro w mg fa h KX G hmg
    refine' K52.all_mk KX G hmg ?a_is_number ?l_is_number ?c_is_number ?k_is_number ?a_is_rising ?l_is_rising ?c_is_rising ?k_is_rising ?a_are_signs ?l_are_signs ?c_are_signs ?k_are_signs ?a_are_turns ?l_are_turns ?c_are_turns ?k_are_turns ?a_is_range ?l_is_range ?c_is_range ?k_is_range ?a_is_instruction ?l_is_instruction ?c_is_instruction ?k_is_instruction ?a_checksum ?l_checksum ?c_checksum ?k_checksum ?a_decode_map ?l_decode_map ?c_decode_map ?k_decode_map ?a__law_mix ?l__law_mix ?c__law_mix ?k__law_mix ?a__law_next ?l__law_next ?c__law_next ?k__law_next ?a__law_alike ?l__law_alike ?c__law_alike ?k__law_alike ?a__law_rows ?l__law_rows ?c__law_rows ?k__law_rows ?a__law_sign ?l__law_sign ?c__law_sign ?k__law_sign ?a__law_cells ?l__law_cells ?c__law_cells ?k__law_cells ?a__law_on ?l__law_on ?c__law_on ?k__law_on ?a__law_line ?l__law_line ?c__law_line ?k__law_line ?a__law_shore ?l__law_shore ?c__law_shore ?k__law_shore ?a__law_steps ?l__law_steps ?c__law_steps ?k__law_steps ?a__law_behind ?l__law_behind ?c__law_behind ?k__law_behind ?a__law_begin ?l__law_begin ?c__law_begin ?k__law_begin ?a__law_final ?l__law_final ?c__law_final ?k__law_final ?a__law_signs ?l__law_signs ?c__law_signs ?k__law_signs ?a__law_turns ?l__law_turns ?c__law_turns ?k__law_turns ?a__law_one ?l__law_one ?c__law_one ?k__law_one ?a__law_drawn ?l__law_drawn ?c__law_drawn ?k__law_drawn ?a__law_parts ?l__law_parts ?c__law_parts ?k__law_parts ?a__law_heads ?l__law_heads ?c__law_heads ?k__law_heads ?a__law_wrong_index ?l__law_wrong_index ?c__law_wrong_index ?k__law_wrong_index ?a__law_signs_code ?l__law_signs_code ?c__law_signs_code ?k__law_signs_code ?a__law_sum ?l__law_sum ?c__law_sum ?k__law_sum ?a__law_code ?l__law_code ?c__law_code ?k__law_code ?a__law_pull ?l__law_pull ?c__law_pull ?k__law_pull ?a__law_pull_signs ?l__law_pull_signs ?c__law_pull_signs ?k__law_pull_signs ?a__law_pull_turns ?l__law_pull_turns ?c__law_pull_turns ?k__law_pull_turns ?a__law_decoded ?l__law_decoded ?c__law_decoded ?k__law_decoded ?a__law_wrong_signs ?l__law_wrong_signs ?c__law_wrong_signs ?k__law_wrong_signs ?a__law_seen ?l__law_seen ?c__law_seen ?k__law_seen ?a__law_due ?l__law_due ?c__law_due ?k__law_due ?a_law ?l_law ?c_law ?k_law ?a_C ?a_CM ?a_CI ?a_CD ?a_CV ?a_CE ?a_Island_init ?i_Island_init ?l_Island_init ?c_Island_init ?k_Island_init ?a_Map_init ?i_Map_init ?l_Map_init ?c_Map_init ?k_Map_init ?a_Reader_init ?i_Reader_init ?l_Reader_init ?c_Reader_init ?k_Reader_init ?a_Reader_take ?i_Reader_take ?l_Reader_take ?c_Reader_take ?k_Reader_take ?a_Reader_take_signs ?i_Reader_take_signs ?l_Reader_take_signs ?c_Reader_take_signs ?k_Reader_take_signs ?a_Reader_take_turns ?i_Reader_take_turns ?l_Reader_take_turns ?c_Reader_take_turns ?k_Reader_take_turns ?a_Reader_take_instruction ?i_Reader_take_instruction ?l_Reader_take_instruction ?c_Reader_take_instruction ?k_Reader_take_instruction ?a_Map_island ?g_Map_island ?t_Map_island ?r1_Map_island ?l_Map_island ?c_Map_island ?k_Map_island ?a_Map_signs ?g_Map_signs ?t_Map_signs ?r1_Map_signs ?l_Map_signs ?c_Map_signs ?k_Map_signs ?a_Map_facings ?g_Map_facings ?t_Map_facings ?r1_Map_facings ?l_Map_facings ?c_Map_facings ?k_Map_facings ?a_Map_instructions ?g_Map_instructions ?t_Map_instructions ?r1_Map_instructions ?l_Map_instructions ?c_Map_instructions ?k_Map_instructions ?a_Island_rows ?g_Island_rows ?t_Island_rows ?r1_Island_rows ?l_Island_rows ?c_Island_rows ?k_Island_rows ?z_len ?z_int ?z_bool ?z_dict ?z_tuple ?z_list ?z_str ?z_isinstance ?z_range ?z_max ?z_min ?z_abs ?z_zip ?z_all ?z_enumerate ?z_sorted ?z_set ?z_super ?n_CHECK ?n_MAX_PACES ?n_MAX_SIZE ?n_MAX_FAR ?n_RIGHT ?n_LEFT ?n_MAX_INSTRUCTIONS ?n_FIRST ?n_MAX_CODE ?n_LAND ?n_WATER ?n_LETTERS ?n_SIGNS ?n_TURN ?n_WALK ?n_UNTIL ?n_TOWARD ?n_BESIDE ?n_NEAR ?a_HEADS ?l_HEADS ?a_FORMS ?l_FORMS ?lit ?low ?a_fo0 ?l_fo0 ?a_fo1 ?l_fo1 ?a_fo2 ?l_fo2 ?a_fo3 ?l_fo3 ?a_fo4 ?l_fo4 ?a_fo5 ?l_fo5 ?a_fo6 ?l_fo6 ?x1D ?x2D ?x3D ?x4D ?x5D ?x6D ?x7D ?x8D ?x9D ?x10D ?x12D ?x13D ?x14D ?x15D ?x16D ?x17D ?x18D ?x19D ?x20D ?x21D ?x22D ?x23D ?x24D ?x25D ?x26D ?x1V ?x2V ?x3V ?x4V ?x5V ?x6V ?x7V ?x8V ?x9V ?x10V ?x12V ?x13V ?x14V ?x15V ?x16V ?x17V ?x18V ?x19V ?x20V ?x21V ?x22V ?x23V ?x24V ?x25V ?x26V ?opq ?top_ ?y1 ?y2 ?y3 ?y4 ?y5 ?y6 ?y7 ?y8 ?pg_CM ?hd_CM ?po_CM ?sa_CM ?pg_CI ?hd_CI ?po_CI ?sa_CI ?pg_C ?ic_C ?po_C ?sa_C ?mk_C ?kc_C ?mk_CM ?kc_CM ?mk_CI ?kc_CI ?na_own_island ?na_own_signs ?na_own_facings ?na_own_instructions ?na_own_rows ?s1_codes ?s2_codes ?s3_codes ?s4_codes ?s5_codes ?s1_offset ?s2_offset ?s3_offset ?s4_offset ?s5_offset
    case a_is_number => k_is
    case l_is_number => k_is
    case c_is_number => k_is
    case k_is_number => k_is
    case a_is_rising => k_is
    case l_is_rising => k_is
    case c_is_rising => k_is
    case k_is_rising => k_is
    case a_are_signs => k_is
    case l_are_signs => k_is
    case c_are_signs => k_is
    case k_are_signs => k_is
    case a_are_turns => k_is
    case l_are_turns => k_is
    case c_are_turns => k_is
    case k_are_turns => k_is
    case a_is_range => k_is
    case l_is_range => k_is
    case c_is_range => k_is
    case k_is_range => k_is
    case a_is_instruction => k_is
    case l_is_instruction => k_is
    case c_is_instruction => k_is
    case k_is_instruction => k_is
    case a_checksum => k_is
    case l_checksum => k_is
    case c_checksum => k_is
    case k_checksum => k_is
    case a_decode_map => k_is
    case l_decode_map => k_is
    case c_decode_map => k_is
    case k_decode_map => k_is
    case a__law_mix => k_is
    case l__law_mix => k_is
    case c__law_mix => k_is
    case k__law_mix => k_is
    case a__law_next => k_is
    case l__law_next => k_is
    case c__law_next => k_is
    case k__law_next => k_is
    case a__law_alike => k_is
    case l__law_alike => k_is
    case c__law_alike => k_is
    case k__law_alike => k_is
    case a__law_rows => k_is
    case l__law_rows => k_is
    case c__law_rows => k_is
    case k__law_rows => k_is
    case a__law_sign => k_is
    case l__law_sign => k_is
    case c__law_sign => k_is
    case k__law_sign => k_is
    case a__law_cells => k_is
    case l__law_cells => k_is
    case c__law_cells => k_is
    case k__law_cells => k_is
    case a__law_on => k_is
    case l__law_on => k_is
    case c__law_on => k_is
    case k__law_on => k_is
    case a__law_line => k_is
    case l__law_line => k_is
    case c__law_line => k_is
    case k__law_line => k_is
    case a__law_shore => k_is
    case l__law_shore => k_is
    case c__law_shore => k_is
    case k__law_shore => k_is
    case a__law_steps => k_is
    case l__law_steps => k_is
    case c__law_steps => k_is
    case k__law_steps => k_is
    case a__law_behind => k_is
    case l__law_behind => k_is
    case c__law_behind => k_is
    case k__law_behind => k_is
    case a__law_begin => k_is
    case l__law_begin => k_is
    case c__law_begin => k_is
    case k__law_begin => k_is
    case a__law_final => k_is
    case l__law_final => k_is
    case c__law_final => k_is
    case k__law_final => k_is
    case a__law_signs => k_is
    case l__law_signs => k_is
    case c__law_signs => k_is
    case k__law_signs => k_is
    case a__law_turns => k_is
    case l__law_turns => k_is
    case c__law_turns => k_is
    case k__law_turns => k_is
    case a__law_one => k_is
    case l__law_one => k_is
    case c__law_one => k_is
    case k__law_one => k_is
    case a__law_drawn => k_is
    case l__law_drawn => k_is
    case c__law_drawn => k_is
    case k__law_drawn => k_is
    case a__law_parts => k_is
    case l__law_parts => k_is
    case c__law_parts => k_is
    case k__law_parts => k_is
    case a__law_heads => k_is
    case l__law_heads => k_is
    case c__law_heads => k_is
    case k__law_heads => k_is
    case a__law_wrong_index => k_is
    case l__law_wrong_index => k_is
    case c__law_wrong_index => k_is
    case k__law_wrong_index => k_is
    case a__law_signs_code => k_is
    case l__law_signs_code => k_is
    case c__law_signs_code => k_is
    case k__law_signs_code => k_is
    case a__law_sum => k_is
    case l__law_sum => k_is
    case c__law_sum => k_is
    case k__law_sum => k_is
    case a__law_code => k_is
    case l__law_code => k_is
    case c__law_code => k_is
    case k__law_code => k_is
    case a__law_pull => k_is
    case l__law_pull => k_is
    case c__law_pull => k_is
    case k__law_pull => k_is
    case a__law_pull_signs => k_is
    case l__law_pull_signs => k_is
    case c__law_pull_signs => k_is
    case k__law_pull_signs => k_is
    case a__law_pull_turns => k_is
    case l__law_pull_turns => k_is
    case c__law_pull_turns => k_is
    case k__law_pull_turns => k_is
    case a__law_decoded => k_is
    case l__law_decoded => k_is
    case c__law_decoded => k_is
    case k__law_decoded => k_is
    case a__law_wrong_signs => k_is
    case l__law_wrong_signs => k_is
    case c__law_wrong_signs => k_is
    case k__law_wrong_signs => k_is
    case a__law_seen => k_is
    case l__law_seen => k_is
    case c__law_seen => k_is
    case k__law_seen => k_is
    case a__law_due => k_is
    case l__law_due => k_is
    case c__law_due => k_is
    case k__law_due => k_is
    case a_law => k_is
    case l_law => k_is
    case c_law => k_is
    case k_law => k_is
    case a_C => k_is
    case a_CM => k_is
    case a_CI => k_is
    case a_CD => k_is
    case a_CV => k_is
    case a_CE => k_is
    case a_Island_init => k_is
    case i_Island_init => k_is
    case l_Island_init => k_is
    case c_Island_init => k_is
    case k_Island_init => k_is
    case a_Map_init => k_is
    case i_Map_init => k_is
    case l_Map_init => k_is
    case c_Map_init => k_is
    case k_Map_init => k_is
    case a_Reader_init => k_is
    case i_Reader_init => k_is
    case l_Reader_init => k_is
    case c_Reader_init => k_is
    case k_Reader_init => k_is
    case a_Reader_take => k_is
    case i_Reader_take => k_is
    case l_Reader_take => k_is
    case c_Reader_take => k_is
    case k_Reader_take => k_is
    case a_Reader_take_signs => k_is
    case i_Reader_take_signs => k_is
    case l_Reader_take_signs => k_is
    case c_Reader_take_signs => k_is
    case k_Reader_take_signs => k_is
    case a_Reader_take_turns => k_is
    case i_Reader_take_turns => k_is
    case l_Reader_take_turns => k_is
    case c_Reader_take_turns => k_is
    case k_Reader_take_turns => k_is
    case a_Reader_take_instruction => k_is
    case i_Reader_take_instruction => k_is
    case l_Reader_take_instruction => k_is
    case c_Reader_take_instruction => k_is
    case k_Reader_take_instruction => k_is
    case a_Map_island => k_is
    case g_Map_island => k_is
    case t_Map_island => k_is
    case r1_Map_island => k_is
    case l_Map_island => k_is
    case c_Map_island => k_is
    case k_Map_island => k_is
    case a_Map_signs => k_is
    case g_Map_signs => k_is
    case t_Map_signs => k_is
    case r1_Map_signs => k_is
    case l_Map_signs => k_is
    case c_Map_signs => k_is
    case k_Map_signs => k_is
    case a_Map_facings => k_is
    case g_Map_facings => k_is
    case t_Map_facings => k_is
    case r1_Map_facings => k_is
    case l_Map_facings => k_is
    case c_Map_facings => k_is
    case k_Map_facings => k_is
    case a_Map_instructions => k_is
    case g_Map_instructions => k_is
    case t_Map_instructions => k_is
    case r1_Map_instructions => k_is
    case l_Map_instructions => k_is
    case c_Map_instructions => k_is
    case k_Map_instructions => k_is
    case a_Island_rows => k_is
    case g_Island_rows => k_is
    case t_Island_rows => k_is
    case r1_Island_rows => k_is
    case l_Island_rows => k_is
    case c_Island_rows => k_is
    case k_Island_rows => k_is
    case z_len => k_is
    case z_int => k_is
    case z_bool => k_is
    case z_dict => k_is
    case z_tuple => k_is
    case z_list => k_is
    case z_str => k_is
    case z_isinstance => k_is
    case z_range => k_is
    case z_max => k_is
    case z_min => k_is
    case z_abs => k_is
    case z_zip => k_is
    case z_all => k_is
    case z_enumerate => k_is
    case z_sorted => k_is
    case z_set => k_is
    case z_super => k_is
    case n_CHECK => k_is
    case n_MAX_PACES => k_is
    case n_MAX_SIZE => k_is
    case n_MAX_FAR => k_is
    case n_RIGHT => k_is
    case n_LEFT => k_is
    case n_MAX_INSTRUCTIONS => k_is
    case n_FIRST => k_is
    case n_MAX_CODE => k_is
    case n_LAND => k_is
    case n_WATER => k_is
    case n_LETTERS => k_is
    case n_SIGNS => k_is
    case n_TURN => k_is
    case n_WALK => k_is
    case n_UNTIL => k_is
    case n_TOWARD => k_is
    case n_BESIDE => k_is
    case n_NEAR => k_is
    case a_HEADS => k_is
    case l_HEADS => k_is
    case a_FORMS => k_is
    case l_FORMS => k_is
    case lit => k_keys
    case low => decide +kernel
    case a_fo0 => k_is
    case l_fo0 => k_is
    case a_fo1 => k_is
    case l_fo1 => k_is
    case a_fo2 => k_is
    case l_fo2 => k_is
    case a_fo3 => k_is
    case l_fo3 => k_is
    case a_fo4 => k_is
    case l_fo4 => k_is
    case a_fo5 => k_is
    case l_fo5 => k_is
    case a_fo6 => k_is
    case l_fo6 => k_is
    case x1D => k_is
    case x2D => rfl
    case x3D => k_is
    case x4D => k_is
    case x5D => k_is
    case x6D => k_is
    case x7D => k_is
    case x8D => k_is
    case x9D => k_is
    case x10D => k_is
    case x12D => kernel_rfl
    case x13D => k_is
    case x14D => k_is
    case x15D => k_is
    case x16D => k_is
    case x17D => rfl
    case x18D => first | rfl | decide +kernel
    case x19D => k_is
    case x20D => k_is
    case x21D => k_is
    case x22D => k_is
    case x23D => k_is
    case x24D => k_is
    case x25D => kernel_rfl
    case x26D => kernel_rfl
    case x1V => k_is
    case x2V => rfl
    case x3V => k_is
    case x4V => k_is
    case x5V => k_is
    case x6V => k_is
    case x7V => k_is
    case x8V => k_is
    case x9V => k_is
    case x10V => k_is
    case x12V => kernel_rfl
    case x13V => k_is
    case x14V => k_is
    case x15V => k_is
    case x16V => k_is
    case x17V => rfl
    case x18V => first | rfl | decide +kernel
    case x19V => k_is
    case x20V => k_is
    case x21V => k_is
    case x22V => k_is
    case x23V => k_is
    case x24V => k_is
    case x25V => kernel_rfl
    case x26V => kernel_rfl
    case opq => k_is
    case top_ => first | rfl | decide +kernel
    case y1 => k_is
    case y2 => k_is
    case y3 => kernel_rfl
    case y4 => kernel_rfl
    case y5 => kernel_rfl
    case y6 => kernel_rfl
    case y7 => k_is
    case y8 => k_is
    case pg_CM => k_is
    case hd_CM => k_is
    case po_CM => k_is
    case sa_CM => k_is
    case pg_CI => k_is
    case hd_CI => k_is
    case po_CI => k_is
    case sa_CI => k_is
    case pg_C => k_is
    case ic_C => k_is
    case po_C => k_is
    case sa_C => k_is
    case mk_C => k_is
    case kc_C => k_is
    case mk_CM => k_is
    case kc_CM => k_is
    case mk_CI => k_is
    case kc_CI => k_is
    case na_own_island => k_is
    case na_own_signs => k_is
    case na_own_facings => k_is
    case na_own_instructions => k_is
    case na_own_rows => k_is
    case s1_codes => k_is
    case s2_codes => k_is
    case s3_codes => k_is
    case s4_codes => k_is
    case s5_codes => k_is
    case s1_offset => k_is
    case s2_offset => k_is
    case s3_offset => k_is
    case s4_offset => k_is
    case s5_offset => k_is
