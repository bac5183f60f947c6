import PyProof.Rows.All
import Wide.All
import OpenK.AllK
import Wide.FinOn
import HandS.ForMost
import HandS.ForExc
import HandS.Conv
import HandS.SortRule
import HandS.IsInst
import HandS.Evl
import HandS.SetFor
import HandS.SortInts
import HandS.Deep
import HandS.ExcIs
import PySem.Challenge.RW_pairlings_k05_lists_that_are_no_walks
set_option Elab.async false
set_option linter.all false
set_option maxRecDepth 100000
set_option maxHeartbeats 4000000
namespace Pg
open PySem L2
/-! ### a def that stands at a module's name and keeps its promise -/
structure Known (P : Program) (w : World) (K : PySem.W.Frag) (mg : Str → Option Value) (base : Heap) (CX : CXT) (k : Nat) (x : Str) (ps : List Str) (sp : Sp) : Prop where
  ex : ∃ (f : Addr) (fd : FuncData), mg x = some (.ref f) ∧ PySem.W.keepIn K (.ref f) = true ∧ Binds K fd ps [] ∧ FnOk P w K mg base CX k f fd ps sp
/-- what the top has left of a def: where it stands, its text, how it binds -/
structure Def (K : PySem.W.Frag) (mg : Str → Option Value) (x : Str) (ps : List Str) (st : Stmt) : Prop where
  ex : ∃ (f : Addr) (fd : FuncData), mg x = some (.ref f) ∧ Binds K fd ps [] ∧ Fun K x x st f fd
theorem Def.known {P : Program} {w : World} {K : PySem.W.Frag} {mg : Str → Option Value} {base : Heap} {CX : CXT} {k : Nat} {x : Str} {ps : List Str} {st : Stmt} {sp : Sp} (D : Def K mg x ps st)
    (h : ∀ f fd, Fun K x x st f fd → FnOk P w K mg base CX k f fd ps sp) : Known P w K mg base CX k x ps sp := by
  obtain ⟨f, fd, hm, hb, F⟩ := D.ex
  exact ⟨f, fd, hm, F.kp, hb, h f fd F⟩
/-- f(e, ..) -/
def tCl (sp : Sp) (E : XK) (t : TA) : TE := fun σ H Q => t σ H fun vs H1 => sp vs H1 Q E
theorem pe_kc {X : Cx} {CX : CXT} {k : Nat} {x : Str} {ps : List Str} {sp : Sp} {E : XK} {t : TA} {e : Expr} {es : List Expr} {p pos : Pos} (G : Known X.prog X.w X.K X.mg X.base CX k x ps sp) (hr : Room k X.A) (hg : Gl X x) (hx : Passes CX X E)
    (ha : PA X (e :: es) t) (hdb : (x == ("__debug__" : Str)) = false := by decide) (he : starEach (e :: es) X.env = (false, eval e X.env) :: starEach es X.env := by rfl) (hpl : (backTo pos (starEach es X.env)).any (·.1) = false := by rfl) :
    PE X (.Call (.Name x p) (e :: es) [] pos) (tCl sp E t) := by
  obtain ⟨f, fd, hm, hk, hb, F⟩ := G.ex
  have h : PE X (.Call (.Name x p) (e :: es) [] pos) (tCall sp [] E t) := pe_call (dvs := []) (ds := []) F hr hg hm hk hb Paired.nil hx ha hdb he hpl
  refine ⟨fun pins s σ H Q I q => h.run pins s σ H Q I ?_⟩
  have e : (fun (vs : List V) (H1 : Hp) => sp (vs ++ []) H1 Q E) = fun vs H1 => sp vs H1 Q E := funext fun vs => by rw [List.append_nil]
  show t σ H (fun (vs : List V) (H1 : Hp) => sp (vs ++ []) H1 Q E)
  rw [e]
  exact q
/-! ### heaps -/
theorem sm_new {H : Hp} {p : Addr} {o : HO} (h : H p = none) : Same H (upd H p o) := fun b x e => by
  rw [upd_ne (ne_of_none e h)]
  exact e
/-- an object that H does not know may change -/
theorem sm_mut {H H' : Hp} {p : Addr} {o : HO} (e : Same H H') (h : H p = none) : Same H (upd H' p o) := fun a u ha => by
  rw [upd_ne (ne_of_none ha h)]
  exact e a u ha
theorem sm_seqT {K : PySem.W.Frag} {H H' : Hp} {a : Addr} {xs : List V} (e : Same H H') (h : SqT K H a xs) : SqT K H' a xs := by
  rcases h with (h | ⟨o, h⟩) | h
  · exact .inl (.inl (e _ _ h))
  · exact .inl (.inr ⟨o, e _ _ h⟩)
  · exact .inr h
theorem cut_from (xs : List V) (i : Int) (h : 0 ≤ i) : cutV xs (some i) none = xs.drop i.toNat := by
  unfold cutV
  obtain ⟨n, rfl⟩ : ∃ n : Nat, i = (n : Int) := ⟨i.toNat, by omega⟩
  rw [show HT.sIx xs.length 0 (some (n : Int)) = min n xs.length from HT.sIx_nat xs.length 0 n, HT.sIx_none]
  have e : ((n : Int)).toNat = n := by omega
  rw [e]
  by_cases c : n ≤ xs.length
  · rw [Nat.min_eq_left c]
    exact List.take_of_length_le (by rw [List.length_drop]; exact Nat.le_refl _)
  · rw [Nat.min_eq_right (by omega), List.drop_of_length_le (show xs.length ≤ n by omega), List.drop_of_length_le (Nat.le_refl _), List.take_nil]
theorem cut_to (xs : List V) (i : Int) (h : 0 ≤ i) : cutV xs none (some i) = xs.take i.toNat := by
  unfold cutV
  obtain ⟨n, rfl⟩ : ∃ n : Nat, i = (n : Int) := ⟨i.toNat, by omega⟩
  rw [show HT.sIx xs.length xs.length (some (n : Int)) = min n xs.length from HT.sIx_nat xs.length xs.length n, HT.sIx_none]
  have e : ((n : Int)).toNat = n := by omega
  rw [e, List.drop_zero, Nat.sub_zero]
  by_cases c : n ≤ xs.length
  · rw [Nat.min_eq_left c]
  · rw [Nat.min_eq_right (by omega), List.take_of_length_le (Nat.le_refl _), List.take_of_length_le (by omega)]
theorem dint {i j : Int} : decide (V.int i = V.int j) = decide (i = j) := by
  rw [decide_eq_decide]
  exact ⟨fun e => V.int.inj e, fun e => by rw [e]⟩
theorem dstr {i j : Str} : decide (V.str i = V.str j) = decide (i = j) := by
  rw [decide_eq_decide]
  exact ⟨fun e => V.str.inj e, fun e => by rw [e]⟩
theorem filt_all {α : Type} (l : List α) : l.filter (fun _ => true) = l := List.filter_eq_self.mpr fun _ _ => rfl
theorem sz {n : Nat} (h : n ≤ 100000) : n ≤ sizeLine := Nat.le_trans h (by decide)
theorem szl {n : Nat} (h : n < 100000) : n < sizeLine := Nat.lt_of_lt_of_le h (by decide)
theorem ixn {n : Nat} {i : Int} {j : Nat} (e : i = (j : Int)) (hj : j < n) : ixN n i = some j := by
  rw [e]
  exact Evl.ixN_nat hj
/-! ### rules with the written part said -/
section
variable {X : Cx}
theorem ixL (K : PySem.W.Frag) (e : X.K = K := by rfl) : IxR X (rIxL K) := e ▸ ix_list
theorem ixT (K : PySem.W.Frag) (e : X.K = K := by rfl) : IxR X (rIxT K) := e ▸ ix_tup
theorem slL (K : PySem.W.Frag) (e : X.K = K := by rfl) : SlR X (rSlL K) := e ▸ sl_list
theorem slT (K : PySem.W.Frag) (e : X.K = K := by rfl) : SlR X (rSlT K) := e ▸ sl_tup
def rLen (K : PySem.W.Frag) : List V → Hp → VK → Prop := fun xs H Q => ∃ p ys, xs = [.ref p] ∧ (SqL K H p ys ∨ SqT K H p ys) ∧ Q (.int ys.length) H
theorem callLen (K : PySem.W.Frag) (e : X.K = K := by rfl) : CallR X (.builtin "len") (rLen K) := e ▸ call_len_seq
def rLstOf (K : PySem.W.Frag) : List V → Hp → VK → Prop := fun xs H Q => ∃ p ys, xs = [.ref p] ∧ (SqL K H p ys ∨ SqT K H p ys) ∧ ∀ l, H l = none → Q (.ref l) (upd H l (.lst ys))
theorem callLst (K : PySem.W.Frag) (e : X.K = K := by rfl) : CallR X (.type "list") (rLstOf K) := e ▸ call_list_of
def rTupOf (K : PySem.W.Frag) : List V → Hp → VK → Prop := fun xs H Q => ∃ p ys, xs = [.ref p] ∧ ((SqL K H p ys ∧ ∀ l, H l = none → Q (.ref l) (upd H l (.tup ys))) ∨ (SqT K H p ys ∧ Q (.ref p) H))
theorem callTup (K : PySem.W.Frag) (e : X.K = K := by rfl) : CallR X (.type "tuple") (rTupOf K) := e ▸ call_tuple_of
theorem eqD (K : PySem.W.Frag) (hu : X.A.units + 64 < cLine) (e : X.K = K := by rfl) : OpR X (compareOp .Eq) (rEqD K) := e ▸ op_eqD hu
theorem neD (K : PySem.W.Frag) (hu : X.A.units + 64 < cLine) (e : X.K = K := by rfl) : OpR X (compareOp .NotEq) (rNeD K) := e ▸ op_neD hu
theorem callIsi (K : PySem.W.Frag) (e : X.K = K := by rfl) : CallR X (.builtin "isinstance") (rIsi K) := e ▸ call_isi
theorem inSq (K : PySem.W.Frag) (e : X.K = K := by rfl) : OpR X (compareOp .In) (rIn K false) := e ▸ op_in_seq
theorem ninSq (K : PySem.W.Frag) (e : X.K = K := by rfl) : OpR X (compareOp .NotIn) (rIn K true) := e ▸ op_notIn_seq
theorem piL (K : PySem.W.Frag) {tg l : Expr} {tl : TE} (h : PE X l tl) (e : X.K = K := by rfl) : PI X tg l (iList K tl) := e ▸ pi_list h
theorem piT (K : PySem.W.Frag) {tg l : Expr} {tl : TE} (h : PE X l tl) (e : X.K = K := by rfl) : PI X tg l (iTup K tl) := e ▸ pi_tup h
theorem pgT (K : PySem.W.Frag) {es : List Expr} {k : Nat} {t : TGs} {n : Nat} {pos : Pos} (hc : X.calm = true) (h : PGs X es t)
    (hn : (assignEach es X.env).length = n := by rfl) (hst : (assignEach es X.env).findIdx? (·.1) = none := by rfl) (e : X.K = K := by rfl) : PG X (.Tuple es k pos) (gTup K n t) := e ▸ pg_tup hc h hn hst
theorem peM0 (K : PySem.W.Frag) {o : Expr} {to : TE} {name : Str} {apos cpos : Pos} {T id : String} {r : V → List V → Hp → VK → Prop} (pa : PlainAttrs T) (slot : Slot T name id) (hty : typeOf (.builtin id) = pure (.type "method_descriptor")) (hm : MtR X id r) (ho : PE X o to)
    (hbase : attributeBase o name X.env (eval o X.env) = eval o X.env := by rfl) (hline : (apos.endLine == cpos.line) = true := by rfl) (e : X.K = K := by rfl) : PE X (.Call (.Attribute o name apos) [] [] cpos) (tBM0 K T r to) := e ▸ pe_bm0 pa slot hty hm ho hbase hline
theorem peM (K : PySem.W.Frag) {o a : Expr} {es : List Expr} {to : TE} {t : TA} {name : Str} {apos cpos : Pos} {T id : String} {r : V → List V → Hp → VK → Prop} (pa : PlainAttrs T) (slot : Slot T name id) (hty : typeOf (.builtin id) = pure (.type "method_descriptor")) (hm : MtR X id r) (ho : PE X o to) (ha : PA X (a :: es) t)
    (hbase : attributeBase o name X.env (eval o X.env) = eval o X.env := by rfl)
    (hfew : ((backTo cpos (starEach (a :: es) X.env)).all (fun x => !x.1) && (backToKw cpos (keywordEach [] X.env)).all (fun x => x.1.isSome)
      && decide ((a :: es).length + ([] : List Keyword).length + (if ([] : List Keyword).isEmpty then 0 else 1) < 30)) = true := by rfl)
    (hline : (apos.endLine == cpos.line) = true := by rfl) (hs : starEach (a :: es) X.env = (false, eval a X.env) :: starEach es X.env := by rfl) (hplain : (backTo cpos (starEach es X.env)).any (·.1) = false := by rfl) (e : X.K = K := by rfl) :
    PE X (.Call (.Attribute o name apos) (a :: es) [] cpos) (tBM K T r to t) := e ▸ pe_bm pa slot hty hm ho ha hbase hfew hline hs hplain
theorem callSrtI (K : PySem.W.Frag) (e : X.K = K := by rfl) : CallR X (.builtin "sorted") (rSortedI K) := e ▸ cr_sortedI
theorem mtIndex (K : PySem.W.Frag) (e : X.K = K := by rfl) : MtR X "list.index" (rIndex K) := e ▸ mt_index
/-- a op b op c op d -/
def tChain3 (r1 r2 r3 : R2) (ta tb tc td : TE) : TE := fun σ H Q => ta σ H fun x H1 => tb σ H1 fun y H2 => r1 x y H2 fun z H3 => ∃ k, z = .bl k ∧
  (if k = true then tc σ H3 fun u H4 => r2 y u H4 fun z2 H5 => ∃ k2, z2 = .bl k2 ∧ (if k2 = true then td σ H5 fun v H6 => r3 u v H6 Q else Q (.bl false) H5) else Q (.bl false) H3)
theorem pe_chain3 {a b c d : Expr} {ta tb tc td : TE} {pos : Pos} {o1 o2 o3 : CmpOp} {r1 r2 r3 : R2} (h1 : OpR X (compareOp o1) r1) (h2 : OpR X (compareOp o2) r2) (h3 : OpR X (compareOp o3) r3) (ha : PE X a ta) (hb : PE X b tb) (hc : PE X c tc) (hd : PE X d td)
    (hm : lastMarks [o1, o2, o3] [b, c, d] = false := by with_unfolding_all rfl) : PE X (.Compare a [o1, o2, o3] [b, c, d] pos) (tChain3 r1 r2 r3 ta tb tc td) := by
  refine ⟨fun pins s σ H Q I h => ?_⟩
  refine PyProof.Rows.Compare_chain (thn (ha.run pins s σ H _ I h) fun v s1 ⟨x, H1, I1, q1r, q1⟩ => PyProof.Rows.chain_link (thn (hb.run pins s1 σ H1 _ I1 q1) fun u s2 ⟨y, H2, I2, q2r, q2⟩ =>
    thn (h1 pins s2 σ H2 x y v u _ I2 q1r q2r q2) fun e s3 ⟨z, H3, I3, q3r, k, ez, q3⟩ => ?_)) hm
  subst ez
  cases q3r
  refine wpAny_truthy_bool ?_
  cases k with
  | false => exact iteF ⟨.bl false, H3, I3, rfl, q3⟩
  | true =>
    refine iteT (PyProof.Rows.chain_link (thn (hc.run pins s3 σ H3 _ I3 q3) fun w s4 ⟨y2, H4, I4, q4r, q4⟩ => thn (h2 pins s4 σ H4 y y2 u w _ I4 q2r q4r q4) fun e2 s5 ⟨z2, H5, I5, q5r, k2, ez2, q5⟩ => ?_))
    subst ez2
    cases q5r
    refine wpAny_truthy_bool ?_
    cases k2 with
    | false => exact iteF ⟨.bl false, H5, I5, rfl, q5⟩
    | true => exact iteT (PyProof.Rows.chain_last (thn (hd.run pins s5 σ H5 _ I5 q5) fun w' s6 ⟨z', H6, I6, q6r, q6⟩ => h3 pins s6 σ H6 y2 z' w w' Q I6 q4r q6r q6))
end
section
variable {X : Cx}
theorem pe_gi {x : Str} {i : Int} {pos : Pos} (h : ∃ t, X.mg x = some (.int i t)) (hg : Gl X x := by rfl) (hd : (x == ("__debug__" : Str)) = false := by decide) : PE X (.Name x pos) (tC (.int i)) := by
  obtain ⟨t, e⟩ := h
  exact pe_glob hg e ⟨t, rfl⟩ hd
theorem pe_gs {x y : Str} {pos : Pos} (h : ∃ t, X.mg x = some (.str y t)) (hg : Gl X x := by rfl) (hd : (x == ("__debug__" : Str)) = false := by decide) : PE X (.Name x pos) (tC (.str y)) := by
  obtain ⟨t, e⟩ := h
  exact pe_glob hg e ⟨t, rfl⟩ hd
end
/-! ### a reading's outermost word, taken off -/
theorem sq {t u : TS} {D : Ends} {σ : St} {H : Hp} (h : t { D with nx := u D } σ H) : tSeq t u D σ H := h
theorem gn {i : Nat} {v : V} {σ : St} {H : Hp} {Q : St → Hp → Prop} (h : Q (σ.set i (some v)) H) : gName i v σ H Q := h
theorem asg {te : TE} {i : Nat} {D : Ends} {σ : St} {H : Hp} (h : te σ H fun x H1 => D.nx (σ.set i (some x)) H1) : tAsg te (gName i) D σ H := h
theorem nxt {D : Ends} {σ : St} {H : Hp} (h : D.nx σ H) : tNext D σ H := h
theorem ifs {c : TT} {t u : TS} {D : Ends} {σ : St} {H : Hp} (h : c σ H fun b H1 => if b = true then t D σ H1 else u D σ H1) : tIfS c t u D σ H := h
theorem tst {t : TE} {σ : St} {H : Hp} {Q : Bool → Hp → Prop} (h : t σ H fun x H' => ∃ k, x = .bl k ∧ Q k H') : tTest t σ H Q := h
theorem tbb {t : TE} {σ : St} {H : Hp} {Q : Bool → Hp → Prop} (h : t σ H fun x H' => ∃ k, x = .bl k ∧ Q k H') : tB t σ H Q := h
theorem cb {r : List V → Hp → VK → Prop} {t : TA} {σ : St} {H : Hp} {Q : VK} (h : t σ H fun vs H1 => r vs H1 Q) : tCB r t σ H Q := h
theorem cns {ta : TE} {tr : TA} {σ : St} {H : Hp} {Q : List V → Hp → Prop} (h : ta σ H fun x H1 => tr σ H1 fun xs H2 => Q (x :: xs) H2) : tCons ta tr σ H Q := h
theorem opp {r : R2} {ta tb : TE} {σ : St} {H : Hp} {Q : VK} (h : ta σ H fun x H1 => tb σ H1 fun y H2 => r x y H2 Q) : tOp r ta tb σ H Q := h
theorem cll {sp : Sp} {E : XK} {t : TA} {σ : St} {H : Hp} {Q : VK} (h : t σ H fun vs H1 => sp vs H1 Q E) : tCl sp E t σ H Q := h
theorem lstt {t : TA} {σ : St} {H : Hp} {Q : VK} (h : t σ H fun xs H1 => xs.length ≤ sizeLine ∧ ∀ p, H1 p = none → Q (.ref p) (upd H1 p (.lst xs))) : tLst t σ H Q := h
theorem tupp {t : TA} {σ : St} {H : Hp} {Q : VK} (h : t σ H fun xs H1 => xs.length ≤ sizeLine ∧ ∀ p, H1 p = none → Q (.ref p) (upd H1 p (.tup xs))) : tTup t σ H Q := h
theorem bmm {K : PySem.W.Frag} {T : String} {r : V → List V → Hp → VK → Prop} {to : TE} {t : TA} {σ : St} {H : Hp} {Q : VK} (h : to σ H fun x H1 => tyV K T x H1 ∧ t σ H1 fun xs H2 => r x xs H2 Q) : tBM K T r to t σ H Q := h
theorem retn {te : TE} {D : Ends} {σ : St} {H : Hp} (h : te σ H D.rt) : tRet te D σ H := h
/-! ### comprehensions whose tests and elements leave the heap as it is -/
section
variable {K : PySem.W.Frag} {σ : St} {H : Hp} {tl te : TE} {tt : TT} {j : Nat} {vs : List Nat} {a : Addr} {xs : List V} {Q : VK}
theorem filter_take {α : Type} {f : α → Bool} {xs : List α} {i : Nat} {x : α} (h : xs[i]? = some x) : (xs.take (i + 1)).filter f = (xs.take i).filter f ++ (if f x = true then [x] else []) := by
  rw [List.take_add_one, h, List.filter_append]
  congr 1
  cases e : f x <;> simp [e]
theorem lc_turn (f : V → Bool) (v : V → V) {H' : Hp} {D : Addr} {i : Nat} {x : V} {σ2 : St} (hD : H D = none) (hi : xs[i]? = some x) (hz : xs.length ≤ 40000) (e : H' = upd H D (.lst (((xs.take i).filter f).map v)))
    (ht : ∀ H1, Same H H1 → ∀ Q : Bool → Hp → Prop, Q (f x) H1 → tt σ2 H1 Q) (he : f x = true → ∀ H1, Same H H1 → ∀ Q : VK, Q (v x) H1 → te σ2 H1 Q) :
    tt σ2 H' fun b H3 => if b = true then te σ2 H3 fun y H4 => ∃ acc, H4 D = some (.lst acc) ∧ acc.length < sizeLine ∧ upd H4 D (.lst (acc ++ [y])) = upd H D (.lst (((xs.take (i + 1)).filter f).map v)) else H3 = upd H D (.lst (((xs.take (i + 1)).filter f).map v)) := by
  subst e
  refine ht _ (sm_new hD) _ ?_
  rw [filter_take hi]
  cases hf : f x with
  | true =>
    refine iteT (he hf _ (sm_new hD) _ ⟨_, upd_same, szl ?_, ?_⟩)
    · rw [List.length_map]
      have h1 := List.length_filter_le f (xs.take i)
      rw [List.length_take] at h1
      omega
    · rw [upd_upd, if_pos rfl, List.map_append]
      rfl
  | false =>
    refine iteF ?_
    rw [if_neg Bool.false_ne_true, List.append_nil]
theorem lcL (f : V → Bool) (v : V → V) (hl : ∀ Q : VK, Q (.ref a) H → tl σ H Q) (hx : SqL K H a xs) (hz : xs.length ≤ 40000) (hw : ∀ x, wipe ((wipe σ vs).set j (some x)) vs = wipe σ vs)
    (ht : ∀ x ∈ xs, ∀ H1, Same H H1 → ∀ Q : Bool → Hp → Prop, Q (f x) H1 → tt ((wipe σ vs).set j (some x)) H1 Q) (he : ∀ x ∈ xs, f x = true → ∀ H1, Same H H1 → ∀ Q : VK, Q (v x) H1 → te ((wipe σ vs).set j (some x)) H1 Q)
    (q : ∀ p, H p = none → Q (.ref p) (upd H p (.lst ((xs.filter f).map v)))) : tLc (iList K tl) (gName j) tt te vs σ H Q := by
  refine hl _ ⟨a, rfl, ⟨xs, hx⟩, fun D hD => lc_list (K := K) (a := a) (xs := xs) (fun i H' => H' = upd H D (.lst (((xs.take i).filter f).map v))) rfl (fun i H' _ e => ?_) (fun i x H' hi e => ⟨hw x, ?_⟩) (fun H' e => ?_)⟩
  · rw [e]
    exact (sm_new hD).seq hx
  · have hm := List.mem_of_getElem? hi
    exact lc_turn f v hD hi hz e (ht x hm) (he x hm)
  · rw [List.take_length] at e
    rw [e]
    exact q D hD
theorem lcT (f : V → Bool) (v : V → V) (hl : ∀ Q : VK, Q (.ref a) H → tl σ H Q) (hx : SqT K H a xs) (hz : xs.length ≤ 40000) (hw : ∀ x, wipe ((wipe σ vs).set j (some x)) vs = wipe σ vs)
    (ht : ∀ x ∈ xs, ∀ H1, Same H H1 → ∀ Q : Bool → Hp → Prop, Q (f x) H1 → tt ((wipe σ vs).set j (some x)) H1 Q) (he : ∀ x ∈ xs, f x = true → ∀ H1, Same H H1 → ∀ Q : VK, Q (v x) H1 → te ((wipe σ vs).set j (some x)) H1 Q)
    (q : ∀ p, H p = none → Q (.ref p) (upd H p (.lst ((xs.filter f).map v)))) : tLc (iTup K tl) (gName j) tt te vs σ H Q := by
  refine hl _ ⟨a, rfl, ⟨xs, hx⟩, fun D hD => lc_tup (K := K) (a := a) (xs := xs) (fun i H' => H' = upd H D (.lst (((xs.take i).filter f).map v))) rfl (fun i H' _ e => ?_) (fun i x H' hi e => ⟨hw x, ?_⟩) (fun H' e => ?_)⟩
  · rw [e]
    exact sm_seqT (sm_new hD) hx
  · have hm := List.mem_of_getElem? hi
    exact lc_turn f v hD hi hz e (ht x hm) (he x hm)
  · rw [List.take_length] at e
    rw [e]
    exact q D hD
/-- over a tuple, a list that was made on the way -/
theorem lcTN (f : V → Bool) (v : V → V) (hl : ∀ Q : VK, (∀ a H1, Same H H1 → SqT K H1 a xs → Q (.ref a) H1) → tl σ H Q) (hz : xs.length ≤ 40000) (hw : ∀ x, wipe ((wipe σ vs).set j (some x)) vs = wipe σ vs)
    (ht : ∀ x ∈ xs, ∀ H1, Same H H1 → ∀ Q : Bool → Hp → Prop, Q (f x) H1 → tt ((wipe σ vs).set j (some x)) H1 Q) (he : ∀ x ∈ xs, f x = true → ∀ H1, Same H H1 → ∀ Q : VK, Q (v x) H1 → te ((wipe σ vs).set j (some x)) H1 Q)
    (q : ∀ H1 p, Same H H1 → H1 p = none → Q (.ref p) (upd H1 p (.lst ((xs.filter f).map v)))) : tLc (iTup K tl) (gName j) tt te vs σ H Q := by
  refine hl _ fun a H1 s1 hx => ⟨a, rfl, ⟨xs, hx⟩, fun D hD => lc_tup (K := K) (a := a) (xs := xs) (fun i H' => H' = upd H1 D (.lst (((xs.take i).filter f).map v))) rfl (fun i H' _ e => ?_) (fun i x H' hi e => ⟨hw x, ?_⟩) (fun H' e => ?_)⟩
  · rw [e]
    exact sm_seqT (sm_new hD) hx
  · have hm := List.mem_of_getElem? hi
    exact lc_turn f v hD hi hz e (fun H2 s2 => ht x hm H2 (s1.trans s2)) (fun hf H2 s2 => he x hm hf H2 (s1.trans s2))
  · rw [List.take_length] at e
    rw [e]
    exact q H1 D s1 hD
theorem lcLN (f : V → Bool) (v : V → V) (hl : ∀ Q : VK, (∀ a H1, Same H H1 → SqL K H1 a xs → Q (.ref a) H1) → tl σ H Q) (hz : xs.length ≤ 40000) (hw : ∀ x, wipe ((wipe σ vs).set j (some x)) vs = wipe σ vs)
    (ht : ∀ x ∈ xs, ∀ H1, Same H H1 → ∀ Q : Bool → Hp → Prop, Q (f x) H1 → tt ((wipe σ vs).set j (some x)) H1 Q) (he : ∀ x ∈ xs, f x = true → ∀ H1, Same H H1 → ∀ Q : VK, Q (v x) H1 → te ((wipe σ vs).set j (some x)) H1 Q)
    (q : ∀ H1 p, Same H H1 → H1 p = none → Q (.ref p) (upd H1 p (.lst ((xs.filter f).map v)))) : tLc (iList K tl) (gName j) tt te vs σ H Q := by
  refine hl _ fun a H1 s1 hx => ⟨a, rfl, ⟨xs, hx⟩, fun D hD => lc_list (K := K) (a := a) (xs := xs) (fun i H' => H' = upd H1 D (.lst (((xs.take i).filter f).map v))) rfl (fun i H' _ e => ?_) (fun i x H' hi e => ⟨hw x, ?_⟩) (fun H' e => ?_)⟩
  · rw [e]
    exact (sm_new hD).seq hx
  · have hm := List.mem_of_getElem? hi
    exact lc_turn f v hD hi hz e (fun H2 s2 => ht x hm H2 (s1.trans s2)) (fun hf H2 s2 => he x hm hf H2 (s1.trans s2))
  · rw [List.take_length] at e
    rw [e]
    exact q H1 D s1 hD
/-- over range(n) -/
theorem lcR {ta : TA} {n : Int} (f : V → Bool) (v : V → V) (hl : ∀ Q : List V → Hp → Prop, Q [.int n] H → ta σ H Q) (hz : n ≤ 40000) (hw : ∀ x, wipe ((wipe σ vs).set j (some x)) vs = wipe σ vs)
    (ht : ∀ i : Nat, (i : Int) < n → ∀ H1, Same H H1 → ∀ Q : Bool → Hp → Prop, Q (f (.int (i : Int))) H1 → tt ((wipe σ vs).set j (some (.int (i : Int)))) H1 Q)
    (he : ∀ i : Nat, (i : Int) < n → f (.int (i : Int)) = true → ∀ H1, Same H H1 → ∀ Q : VK, Q (v (.int (i : Int))) H1 → te ((wipe σ vs).set j (some (.int (i : Int)))) H1 Q) (hn : -40000 ≤ n)
    (q : ∀ p, H p = none → Q (.ref p) (upd H p (.lst ((((List.range n.toNat).map fun i : Nat => V.int (i : Int)).filter f).map v)))) : tLc (iRng1 ta) (gName j) tt te vs σ H Q := by
  refine hl _ ⟨n, rfl, by omega, by omega, fun D hD => lc_range (lo := 0) (n := n.toNat) (fun i H' => H' = upd H D (.lst ((((((List.range n.toNat).map fun i : Nat => V.int (i : Int))).take i).filter f).map v))) rfl (fun i H' hi e => ?_) (fun H' e => ?_)⟩
  · have e0 : (0 : Int) + (i : Int) = (i : Int) := Int.zero_add _
    have hg : ((List.range n.toNat).map fun i : Nat => V.int (i : Int))[i]? = some (V.int (i : Int)) := by
      rw [List.getElem?_map, List.getElem?_range hi]
      rfl
    rw [e0]
    exact ⟨hw _, lc_turn f v hD hg (by rw [List.length_map, List.length_range]; omega) e (ht i (by omega)) (he i (by omega))⟩
  · rw [List.take_of_length_le (by rw [List.length_map, List.length_range]; exact Nat.le_refl _)] at e
    rw [e]
    exact q D hD
end
end Pg
/-! what a class of errors must say so that it is raised, caught and asked for -/
namespace Pg
open PySem PySem.Spec PyProof.Rows L2
theorem kit_own {K : PySem.W.Frag} {D X : Addr} {b : Bool} (h0 : PySem.W.subIn K (.ref D) (.ref D) = some true) (h1 : PySem.W.hasDictIn K X = true) (h2 : PySem.W.typeIn K (.ref X) = some (.type "type")) (h3 : PySem.W.subIn K (.ref D) (.ref X) = some b) :
    PySem.W.kitOne K (.ref D) (.ref X) = some b := by
  have hc : (PySem.W.clsIn K X).isSome = true := by
    obtain ⟨cd, hc, _⟩ := PySem.W.any_some h1
    rw [hc]
    rfl
  unfold PySem.W.kitOne
  by_cases e : D = X
  · subst e
    rw [h0] at h3
    rw [if_pos (by simp)]
    exact h3
  · have ne : ¬ (Value.ref D == Value.ref X) = true := fun z => e (Value.ref.inj (beq_iff_eq.mp z))
    rw [if_neg ne]
    show (if ((PySem.W.clsIn K X).isSome && PySem.W.typeIn K (.ref X) == some (.type "type")) = true then PySem.W.subIn K (.ref D) (.ref X) else none) = some b
    have e2 : ((PySem.W.clsIn K X).isSome && PySem.W.typeIn K (.ref X) == some (.type "type")) = true := by rw [hc, h2] <;> rfl
    rw [if_pos e2]
    exact h3
theorem kit_ve {K : PySem.W.Frag} {D : Addr} (h : PySem.W.subIn K (.ref D) (.type "ValueError") = some true) : PySem.W.kitOne K (.ref D) (.type "ValueError") = some true := by
  unfold PySem.W.kitOne
  rw [if_neg (by simp)]
  show (if PySem.W.kitMeta "ValueError" = true then PySem.W.subIn K (.ref D) (.type "ValueError") else none) = some true
  rw [if_pos (by decide +kernel)]
  exact h
/-- isinstance(e, C) in the suite, e the error that it holds -/
def rIsE2 (K : PySem.W.Frag) (D a : Addr) (cls : Value) (d : Option Addr) : List V → Hp → VK → Prop := fun xs H Q => cls = .ref D ∧ d = none ∧ rIsE K D a xs H Q
theorem call_isE2 (K : PySem.W.Frag) {X : Cx} {a D : Addr} {oe : Obj} {pn : List (Addr × Obj)} {cls : Value} {d : Option Addr} (C : ExcC K D) (hz : Zc cls d oe) (hf : ∃ vs, oe.data = .fields vs) (e : X.K = K := by rfl) :
    CallR (X.suite a ((a, oe) :: pn)) (.builtin "isinstance") (rIsE2 K D a cls d) := by
  subst e
  intro pins s σ H xs us Q I r h
  obtain ⟨rfl, rfl, h⟩ := h
  exact call_isE C hz hf pins s σ H xs us Q I r h
/-- f(e, ..) in a try: what is raised is wished for at the caller's slots -/
theorem pe_kcS {X : Cx} {CX : CXT} {k : Nat} {x : Str} {ps : List Str} {sp : Sp} {E : L2.St → XK} {t : TA} {e : Expr} {es : List Expr} {p pos : Pos} (G : Known X.prog X.w X.K X.mg X.base CX k x ps sp) (hr : Room k X.A) (hg : Gl X x) (hx : ∀ σ, PassesAt CX X σ (E σ))
    (ha : PA X (e :: es) t) (hdb : (x == ("__debug__" : Str)) = false := by decide) (he : starEach (e :: es) X.env = (false, eval e X.env) :: starEach es X.env := by rfl) (hpl : (backTo pos (starEach es X.env)).any (·.1) = false := by rfl) :
    PE X (.Call (.Name x p) (e :: es) [] pos) (tCallS sp E t) := by
  obtain ⟨f, fd, hm, hk, hb, F⟩ := G.ex
  exact pe_callS F hr hg hm hk hb hx ha hdb he hpl
end Pg
namespace Pg
open PySem L2
/-! ### lists of pairs of ints, sorted -/
abbrev Pr := Int × Int
def insP (x : Pr) : List Pr → List Pr
  | [] => [x]
  | y :: r => if SrtO.lexB y x = true then y :: insP x r else x :: y :: r
def sortP : List Pr → List Pr
  | [] => []
  | x :: r => insP x (sortP r)
abbrev SrP (l : List Pr) : Prop := l.Pairwise fun x y => SrtO.lexB y x = false
theorem insP_perm (x : Pr) : ∀ l, (insP x l).Perm (x :: l)
  | [] => List.Perm.refl _
  | y :: r => by
    unfold insP
    split
    · exact ((insP_perm x r).cons y).trans (List.Perm.swap x y r)
    · exact List.Perm.refl _
theorem sortP_perm : ∀ l, (sortP l).Perm l
  | [] => List.Perm.refl _
  | x :: r => (insP_perm x (sortP r)).trans ((sortP_perm r).cons x)
theorem insP_sorted (x : Pr) : ∀ l, SrP l → SrP (insP x l)
  | [], _ => List.pairwise_singleton _ _
  | y :: r, h => by
    obtain ⟨h1, h2⟩ := List.pairwise_cons.mp h
    unfold insP
    split
    · rename_i c
      refine List.pairwise_cons.mpr ⟨fun z hz => ?_, insP_sorted x r h2⟩
      rcases List.mem_cons.mp ((insP_perm x r).mem_iff.mp hz) with e | m
      · subst e
        have c1 := SrtO.lexB_iff.mp c
        exact SrtO.lexB_no.mpr (by omega)
      · exact h1 z m
    · rename_i c
      have c' : SrtO.lexB y x = false := by
        cases e : SrtO.lexB y x with
        | true => exact absurd e c
        | false => rfl
      refine List.pairwise_cons.mpr ⟨fun z hz => ?_, h⟩
      rcases List.mem_cons.mp hz with e | m
      · subst e
        exact c'
      · have a := SrtO.lexB_no.mp c'
        have b := SrtO.lexB_no.mp (h1 z m)
        exact SrtO.lexB_no.mpr (by omega)
theorem sortP_sorted : ∀ l, SrP (sortP l)
  | [] => List.Pairwise.nil
  | x :: r => insP_sorted x _ (sortP_sorted r)
theorem srp_uniq {l m : List Pr} (h1 : SrP l) (h2 : SrP m) (p : l.Perm m) : l = m := by
  refine List.Perm.eq_of_pairwise (le := fun x y => SrtO.lexB y x = false) (fun a b _ _ q r => ?_) h1 h2 p
  have q := SrtO.lexB_no.mp q
  have r := SrtO.lexB_no.mp r
  exact Prod.ext (by omega) (by omega)
theorem sortP_of {l m : List Pr} (h1 : SrP l) (p : l.Perm m) : l = sortP m := srp_uniq h1 (sortP_sorted m) (p.trans (sortP_perm m).symm)
theorem sortP_id {l : List Pr} (h : SrP l) : sortP l = l := (sortP_of h (List.Perm.refl _)).symm
theorem sortP_len (l : List Pr) : (sortP l).length = l.length := (sortP_perm l).length_eq
theorem sortP_congr {l m : List Pr} (p : l.Perm m) : sortP l = sortP m := sortP_of (sortP_sorted l) ((sortP_perm l).trans p)
/-! ### pairs in the heap -/
def PairAt (H : Hp) (v : V) (p : Pr) : Prop := ∃ t, v = .ref t ∧ H t = some (.tup [.int p.1, .int p.2])
abbrev PairsAt (H : Hp) : List V → List Pr → Prop := Paired (PairAt H)
theorem PairAt.mono {H H' : Hp} {v : V} {p : Pr} (e : Same H H') (h : PairAt H v p) : PairAt H' v p := by
  obtain ⟨t, rfl, ht⟩ := h
  exact ⟨t, rfl, e _ _ ht⟩
theorem PairsAt.mono {H H' : Hp} (e : Same H H') : ∀ {xs : List V} {ps : List Pr}, PairsAt H xs ps → PairsAt H' xs ps
  | _, _, .nil => .nil
  | _, _, .cons a b => .cons (a.mono e) (PairsAt.mono e b)
theorem PairAt.inj {H : Hp} {v : V} {p q : Pr} (h : PairAt H v p) (h' : PairAt H v q) : p = q := by
  obtain ⟨t, rfl, ht⟩ := h
  obtain ⟨t', e, ht'⟩ := h'
  cases e
  rw [ht] at ht'
  have z := HO.tup.inj (Option.some.inj ht')
  have z1 := V.int.inj (List.cons.inj z).1
  have z2 := V.int.inj (List.cons.inj (List.cons.inj z).2).1
  exact Prod.ext z1 z2
theorem paired_length {α β : Type} {F : α → β → Prop} : ∀ {xs : List α} {ys : List β}, Paired F xs ys → xs.length = ys.length
  | _, _, .nil => rfl
  | _, _, .cons _ t => by
    rw [List.length_cons, List.length_cons, paired_length t]
theorem paired_get {α β : Type} {F : α → β → Prop} : ∀ {xs : List α} {ys : List β} {i : Nat} {y : β}, Paired F xs ys → ys[i]? = some y → ∃ x, xs[i]? = some x ∧ F x y
  | _, _, _, _, .nil, e => by simp at e
  | _, _, 0, _, .cons r _, e => ⟨_, rfl, by rw [← Option.some.inj e]; exact r⟩
  | _, _, i + 1, y, .cons _ t, e => paired_get (i := i) t e
theorem paired_get' {α β : Type} {F : α → β → Prop} : ∀ {xs : List α} {ys : List β} {i : Nat} {x : α}, Paired F xs ys → xs[i]? = some x → ∃ y, ys[i]? = some y ∧ F x y
  | _, _, _, _, .nil, e => by simp at e
  | _, _, 0, _, .cons r _, e => ⟨_, rfl, by rw [← Option.some.inj e]; exact r⟩
  | _, _, i + 1, y, .cons _ t, e => paired_get' (i := i) t e
theorem paired_append {α β : Type} {F : α → β → Prop} : ∀ {xs xs' : List α} {ys ys' : List β}, Paired F xs ys → Paired F xs' ys' → Paired F (xs ++ xs') (ys ++ ys')
  | _, _, _, _, .nil, h => h
  | _, _, _, _, .cons r t, h => .cons r (paired_append t h)
theorem paired_drop {α β : Type} {F : α → β → Prop} : ∀ {xs : List α} {ys : List β} (n : Nat), Paired F xs ys → Paired F (xs.drop n) (ys.drop n)
  | _, _, 0, h => h
  | _, _, _ + 1, .nil => .nil
  | _, _, n + 1, .cons _ t => paired_drop n t
theorem paired_take {α β : Type} {F : α → β → Prop} : ∀ {xs : List α} {ys : List β} (n : Nat), Paired F xs ys → Paired F (xs.take n) (ys.take n)
  | _, _, 0, h => .nil
  | _, _, _ + 1, .nil => .nil
  | _, _, n + 1, .cons r t => .cons r (paired_take n t)
theorem paired_mem {α β : Type} {F : α → β → Prop} : ∀ {xs : List α} {ys : List β} {x : α}, Paired F xs ys → x ∈ xs → ∃ y ∈ ys, F x y
  | _, _, _, .nil, m => absurd m List.not_mem_nil
  | _, _, x, .cons r t, m => by
    rcases List.mem_cons.mp m with e | m
    · subst e
      exact ⟨_, List.mem_cons_self, r⟩
    · obtain ⟨y, hy, q⟩ := paired_mem t m
      exact ⟨y, List.mem_cons_of_mem _ hy, q⟩
/-- the pair that stands at a value -/
def prOf (H : Hp) : V → Pr
  | .ref t => match H t with
    | some (.tup [.int a, .int b]) => (a, b)
    | _ => (0, 0)
  | _ => (0, 0)
theorem PairAt.of {H : Hp} {v : V} {p : Pr} (h : PairAt H v p) : prOf H v = p := by
  obtain ⟨t, rfl, ht⟩ := h
  unfold prOf
  simp only [ht]
theorem PairsAt.map {H : Hp} : ∀ {xs : List V} {ps : List Pr}, PairsAt H xs ps → ps = xs.map (prOf H)
  | _, _, .nil => rfl
  | _, _, .cons a b => by rw [List.map_cons, a.of, ← PairsAt.map b]
theorem PairsAt.all {H : Hp} {xs : List V} {ps : List Pr} (h : PairsAt H xs ps) : ∀ x ∈ xs, PairAt H x (prOf H x) := fun x m => by
  obtain ⟨p, _, q⟩ := paired_mem h m
  rw [q.of]
  exact q
theorem pairsAt_of {H : Hp} : ∀ {xs : List V}, (∀ x ∈ xs, PairAt H x (prOf H x)) → PairsAt H xs (xs.map (prOf H))
  | [], _ => .nil
  | x :: r, h => .cons (h x List.mem_cons_self) (pairsAt_of fun y m => h y (List.mem_cons_of_mem _ m))
/-- sorted of a list of pairs -/
def rSortedPP (K : PySem.W.Frag) : List V → Hp → VK → Prop := fun vs H Q => ∃ (a : Addr) (xs : List V) (ps : List Pr), vs = [V.ref a] ∧ SqL K H a xs ∧ PairsAt H xs ps ∧
  ∀ (ys : List V) (p : Addr), PairsAt H ys (sortP ps) → ys.Perm xs → H p = none → Q (.ref p) (upd H p (.lst ys))
theorem sorted_pairs {H : Hp} {xs ys : List V} {ps : List Pr} (h : PairsAt H xs ps) (h1 : SrtO.Srtd (ltP (prOf H)) ys) (h2 : ys.Perm xs) : PairsAt H ys (sortP ps) := by
  have e : ys.map (prOf H) = sortP ps := sortP_of (SrtO.srtd_map h1) (by rw [h.map]; exact h2.map _)
  rw [← e]
  exact pairsAt_of fun x m => h.all x (h2.mem_iff.mp m)
theorem cr_sortedPP {X : Cx} (K : PySem.W.Frag) (e : X.K = K := by rfl) : CallR X (.builtin "sorted") (rSortedPP K) := by
  subst e
  intro pins s σ H vs us Q I r h
  obtain ⟨a, xs, ps, rfl, hs, hp, q⟩ := h
  refine cr_sortedPO pins s σ H _ us Q I r ⟨a, xs, prOf H, rfl, hs, fun x m => ?_, fun ys p h1 h2 hn => ?_⟩
  · obtain ⟨t, e, ht⟩ := hp.all x m
    exact ⟨t, e, ht⟩
  · exact q ys p (sorted_pairs hp h1 h2.perm) h2.perm hn
/-! ### a pairing in the heap -/
def PairingAt (H : Hp) (v : V) (n : Int) (ps : List Pr) : Prop := ∃ (p q : Addr) (xs : List V), v = .ref p ∧ H p = some (.tup [.int n, .ref q]) ∧ H q = some (.tup xs) ∧ PairsAt H xs ps
theorem PairingAt.mono {H H' : Hp} {v : V} {n : Int} {ps : List Pr} (e : Same H H') (h : PairingAt H v n ps) : PairingAt H' v n ps := by
  obtain ⟨p, q, xs, rfl, h1, h2, h3⟩ := h
  exact ⟨p, q, xs, rfl, e _ _ h1, e _ _ h2, h3.mono e⟩
/-- a list that is changed leaves the pairs -/
theorem upd_pair {H : Hp} {a : Addr} {ys zs : List V} {v : V} {p : Pr} (h : H a = some (.lst ys)) (hp : PairAt H v p) : PairAt (upd H a (.lst zs)) v p := by
  obtain ⟨t, rfl, ht⟩ := hp
  refine ⟨t, rfl, ?_⟩
  rw [upd_ne (ne_of ht h (by intro z; cases z))]
  exact ht
theorem upd_pairs {H : Hp} {a : Addr} {o u : HO} {xs : List V} {ps : List Pr} (h : H a = some o) (hp : PairsAt H xs ps) (ho : (∃ ys, o = .lst ys) := by exact ⟨_, rfl⟩) : PairsAt (upd H a u) xs ps := by
  obtain ⟨ys, rfl⟩ := ho
  induction hp with
  | nil => exact .nil
  | cons a b ih =>
    refine .cons ?_ ih
    obtain ⟨t, e, ht⟩ := a
    refine ⟨t, e, ?_⟩
    rw [upd_ne (ne_of ht h (by intro z; cases z))]
    exact ht
/-! ### as data -/
def prD (p : Pr) : PyData := .tuple [.int p.1, .int p.2]
def prsD (ps : List Pr) : PyData := .tuple (ps.map prD)
def pgD (n : Int) (ps : List Pr) : PyData := .tuple [.int n, prsD ps]
theorem PairAt.dp {K : PySem.W.Frag} {H : Hp} {v : V} {p : Pr} (h : PairAt H v p) : Dp K H v (prD p) := by
  obtain ⟨t, rfl, ht⟩ := h
  exact .tup (SqT.of ht) (.cons (.int _) (.cons (.int _) .nil))
theorem PairsAt.dp {K : PySem.W.Frag} {H : Hp} : ∀ {xs : List V} {ps : List Pr}, PairsAt H xs ps → DpAll K H xs (ps.map prD)
  | _, _, .nil => .nil
  | _, _, .cons a b => .cons a.dp (PairsAt.dp b)
theorem PairingAt.dp {K : PySem.W.Frag} {H : Hp} {v : V} {n : Int} {ps : List Pr} (h : PairingAt H v n ps) : Dp K H v (pgD n ps) := by
  obtain ⟨p, q, xs, rfl, h1, h2, h3⟩ := h
  exact .tup (SqT.of h1) (.cons (.int _) (.cons (.tup (SqT.of h2) h3.dp) .nil))
end Pg
namespace Pg
open PySem L2
/-! ### walks -/
inductive Stp where
  | lone | opn | num (k : Nat)
  deriving DecidableEq
def Stp.v : Stp → V
  | .lone => .str "lone"
  | .opn => .str "open"
  | .num k => .int (k : Int)
/-- the pairs that are open behind the steps, where they are the steps of a walk -/
def run : Nat → List Stp → Option Nat
  | h, [] => some h
  | h, .lone :: r => run h r
  | h, .opn :: r => run (h + 1) r
  | h, .num k :: r => if k < h then run (h - 1) r else none
theorem run_append : ∀ (h : Nat) (a b : List Stp), run h (a ++ b) = (run h a).bind fun h' => run h' b
  | h, [], b => rfl
  | h, .lone :: r, b => run_append h r b
  | h, .opn :: r, b => run_append (h + 1) r b
  | h, .num k :: r, b => by
    show (if k < h then run (h - 1) (r ++ b) else none) = (if k < h then run (h - 1) r else none).bind fun h' => run h' b
    by_cases c : k < h
    · rw [if_pos c, if_pos c]
      exact run_append (h - 1) r b
    · rw [if_neg c, if_neg c]
      rfl
theorem run_lone {ws : List Stp} {h : Nat} (r : run 0 ws = some h) : run 0 (ws ++ [.lone]) = some h := by
  rw [run_append, r]
  rfl
theorem run_opn {ws : List Stp} {h : Nat} (r : run 0 ws = some h) : run 0 (ws ++ [.opn]) = some (h + 1) := by
  rw [run_append, r]
  rfl
theorem run_num {ws : List Stp} {h k : Nat} (r : run 0 ws = some h) (hk : k < h) : run 0 (ws ++ [.num k]) = some (h - 1) := by
  rw [run_append, r]
  show (if k < h then run (h - 1) [] else none) = _
  rw [if_pos hk]
  rfl
theorem run_le : ∀ (ws : List Stp) {h h' : Nat}, run h ws = some h' → h' ≤ h + ws.length
  | [], h, h', r => by
    have e : h = h' := Option.some.inj r
    simp [e]
  | .lone :: r, h, h', e => by
    have := run_le r (h := h) e
    simp only [List.length_cons]
    omega
  | .opn :: r, h, h', e => by
    have := run_le r (h := h + 1) e
    simp only [List.length_cons]
    omega
  | .num k :: r, h, h', e => by
    have e2 : (if k < h then run (h - 1) r else none) = some h' := e
    by_cases c : k < h
    · rw [if_pos c] at e2
      have := run_le r (h := h - 1) e2
      simp only [List.length_cons]
      omega
    · rw [if_neg c] at e2
      cases e2
/-- the pairs of a walk, in the order of their ends: p the point, os the open ones -/
def clo : Int → List Int → List Stp → List (Int × Int)
  | _, _, [] => []
  | p, os, .lone :: r => clo (p + 1) os r
  | p, os, .opn :: r => clo (p + 1) (os ++ [p]) r
  | p, os, .num k :: r => (os.getD k 0, p) :: clo (p + 1) (os.eraseIdx k) r
/-- the open ones behind the steps -/
def opens : Int → List Int → List Stp → List Int
  | _, os, [] => os
  | p, os, .lone :: r => opens (p + 1) os r
  | p, os, .opn :: r => opens (p + 1) (os ++ [p]) r
  | p, os, .num k :: r => opens (p + 1) (os.eraseIdx k) r
theorem clo_append : ∀ (p : Int) (os : List Int) (a b : List Stp), clo p os (a ++ b) = clo p os a ++ clo (p + a.length) (opens p os a) b
  | p, os, [], b => by simp [clo, opens]
  | p, os, .lone :: r, b => by
    show clo (p + 1) os (r ++ b) = clo (p + 1) os r ++ clo (p + ((.lone :: r : List Stp).length : Nat)) (opens (p + 1) os r) b
    rw [clo_append (p + 1) os r b, List.length_cons]
    congr 2
    omega
  | p, os, .opn :: r, b => by
    show clo (p + 1) (os ++ [p]) (r ++ b) = clo (p + 1) (os ++ [p]) r ++ clo (p + ((.opn :: r : List Stp).length : Nat)) (opens (p + 1) (os ++ [p]) r) b
    rw [clo_append (p + 1) _ r b, List.length_cons]
    congr 2
    omega
  | p, os, .num k :: r, b => by
    show _ :: clo (p + 1) (os.eraseIdx k) (r ++ b) = (_ :: clo (p + 1) (os.eraseIdx k) r) ++ clo (p + ((.num k :: r : List Stp).length : Nat)) (opens (p + 1) (os.eraseIdx k) r) b
    rw [clo_append (p + 1) _ r b, List.length_cons, List.cons_append]
    congr 3
    omega
theorem opens_append : ∀ (p : Int) (os : List Int) (a b : List Stp), opens p os (a ++ b) = opens (p + a.length) (opens p os a) b
  | p, os, [], b => by simp [opens]
  | p, os, .lone :: r, b => by
    show opens (p + 1) os (r ++ b) = opens (p + ((.lone :: r : List Stp).length : Nat)) (opens (p + 1) os r) b
    rw [opens_append (p + 1) os r b, List.length_cons]
    congr 1
    omega
  | p, os, .opn :: r, b => by
    show opens (p + 1) (os ++ [p]) (r ++ b) = opens (p + ((.opn :: r : List Stp).length : Nat)) (opens (p + 1) (os ++ [p]) r) b
    rw [opens_append (p + 1) _ r b, List.length_cons]
    congr 1
    omega
  | p, os, .num k :: r, b => by
    show opens (p + 1) (os.eraseIdx k) (r ++ b) = opens (p + ((.num k :: r : List Stp).length : Nat)) (opens (p + 1) (os.eraseIdx k) r) b
    rw [opens_append (p + 1) _ r b, List.length_cons]
    congr 1
    omega
/-- as many are open as run tells -/
theorem opens_len : ∀ (ws : List Stp) (p : Int) (os : List Int) {h : Nat}, run os.length ws = some h → (opens p os ws).length = h
  | [], p, os, h, e => Option.some.inj e
  | .lone :: r, p, os, h, e => opens_len r (p + 1) os e
  | .opn :: r, p, os, h, e => opens_len r (p + 1) (os ++ [p]) (by rw [List.length_append]; exact e)
  | .num k :: r, p, os, h, e => by
    have e2 : (if k < os.length then run (os.length - 1) r else none) = some h := e
    by_cases c : k < os.length
    · rw [if_pos c] at e2
      exact opens_len r (p + 1) (os.eraseIdx k) (by rw [List.length_eraseIdx, if_pos c]; exact e2)
    · rw [if_neg c] at e2
      cases e2
/-- rising, all below p -/
def Asc (p : Int) (os : List Int) : Prop := os.Pairwise (· < ·) ∧ ∀ o ∈ os, o < p
theorem Asc.lone {p : Int} {os : List Int} (h : Asc p os) : Asc (p + 1) os := ⟨h.1, fun o m => by have := h.2 o m; omega⟩
theorem Asc.opn {p : Int} {os : List Int} (h : Asc p os) : Asc (p + 1) (os ++ [p]) := by
  refine ⟨List.pairwise_append.mpr ⟨h.1, List.pairwise_singleton _ _, fun a ha b hb => ?_⟩, fun o m => ?_⟩
  · rw [List.mem_singleton.mp hb]
    exact h.2 a ha
  · rcases List.mem_append.mp m with m | m
    · have := h.2 o m
      omega
    · rw [List.mem_singleton.mp m]
      omega
theorem Asc.num {p : Int} {os : List Int} (h : Asc p os) (k : Nat) : Asc (p + 1) (os.eraseIdx k) :=
  ⟨h.1.sublist (List.eraseIdx_sublist os k), fun o m => by have := h.2 o (List.mem_of_mem_eraseIdx m); omega⟩
theorem asc_nil (p : Int) : Asc p [] := ⟨List.Pairwise.nil, fun _ m => absurd m List.not_mem_nil⟩
theorem opens_asc : ∀ (ws : List Stp) (p : Int) (os : List Int), Asc p os → Asc (p + ws.length) (opens p os ws)
  | [], p, os, h => by simpa [opens] using h
  | .lone :: r, p, os, h => by
    have q := opens_asc r (p + 1) os h.lone
    rw [List.length_cons]
    show Asc _ (opens (p + 1) os r)
    have e : p + ((r.length + 1 : Nat) : Int) = p + 1 + (r.length : Int) := by omega
    rw [e]
    exact q
  | .opn :: r, p, os, h => by
    have q := opens_asc r (p + 1) _ h.opn
    rw [List.length_cons]
    show Asc _ (opens (p + 1) (os ++ [p]) r)
    have e : p + ((r.length + 1 : Nat) : Int) = p + 1 + (r.length : Int) := by omega
    rw [e]
    exact q
  | .num k :: r, p, os, h => by
    have q := opens_asc r (p + 1) _ (h.num k)
    rw [List.length_cons]
    show Asc _ (opens (p + 1) (os.eraseIdx k) r)
    have e : p + ((r.length + 1 : Nat) : Int) = p + 1 + (r.length : Int) := by omega
    rw [e]
    exact q
theorem Asc.nodup {p : Int} {os : List Int} (h : Asc p os) : os.Nodup := h.1.imp fun {a b} q e => by omega
/-- all but the one at k: of a list without doubles -/
theorem filter_ne_eraseIdx : ∀ (os : List Int) (k : Nat), os.Nodup → k < os.length → os.filter (fun o => !decide (o = os.getD k 0)) = os.eraseIdx k
  | [], k, _, h => absurd h (Nat.not_lt_zero _)
  | o :: r, 0, nd, _ => by
    obtain ⟨h1, h2⟩ := List.nodup_cons.mp nd
    show (o :: r).filter (fun x => !decide (x = o)) = r
    rw [List.filter_cons, if_neg (by simp)]
    exact List.filter_eq_self.mpr fun x hx => by
      have : x ≠ o := fun e => h1 (e ▸ hx)
      simp [this]
  | o :: r, k + 1, nd, hk => by
    obtain ⟨h1, h2⟩ := List.nodup_cons.mp nd
    have hk' : k < r.length := by simpa using hk
    have e : (o :: r).getD (k + 1) 0 = r.getD k 0 := by simp [List.getD_eq_getElem?_getD]
    rw [e, List.eraseIdx_cons_succ, List.filter_cons]
    have hm : r.getD k 0 ∈ r := by
      rw [List.getD_eq_getElem?_getD, List.getElem?_eq_getElem hk']
      exact List.getElem_mem hk'
    have ne : o ≠ r.getD k 0 := fun z => h1 (z ▸ hm)
    rw [if_pos (by rw [decide_eq_false ne]; rfl), filter_ne_eraseIdx r k h2 hk']
/-- ahead of the i-th step of a walk -/
theorem run_take {ws : List Stp} {h i : Nat} {st : Stp} (r : run 0 ws = some h) (hi : ws[i]? = some st) : ∃ hi, run 0 (ws.take i) = some hi ∧ ∀ k, st = .num k → k < hi := by
  have e : ws = ws.take i ++ ws.drop i := (List.take_append_drop i ws).symm
  have hl := (List.getElem?_eq_some_iff.mp hi).1
  have ed : ws.drop i = st :: ws.drop (i + 1) := by
    rw [List.drop_eq_getElem_cons hl, (List.getElem?_eq_some_iff.mp hi).2]
  rw [e, run_append, ed] at r
  cases c : run 0 (ws.take i) with
  | none =>
    rw [c] at r
    cases r
  | some h' =>
    refine ⟨h', rfl, fun k z => ?_⟩
    subst z
    rw [c] at r
    have r2 : (if k < h' then run (h' - 1) (ws.drop (i + 1)) else none) = some h := r
    by_cases q : k < h'
    · exact q
    · rw [if_neg q] at r2
      cases r2
theorem take_succ {α : Type} {ws : List α} {i : Nat} {st : α} (hi : ws[i]? = some st) : ws.take (i + 1) = ws.take i ++ [st] := by
  rw [List.take_add_one, hi]
  rfl
theorem take_len {α : Type} {ws : List α} {i : Nat} {st : α} (hi : ws[i]? = some st) : (ws.take i).length = i := by
  rw [List.length_take]
  have := (List.getElem?_eq_some_iff.mp hi).1
  omega
/-- the open ones and the pairs behind i steps -/
abbrev osAt (ws : List Stp) (i : Nat) : List Int := opens 0 [] (ws.take i)
abbrev prAt (ws : List Stp) (i : Nat) : List Pr := clo 0 [] (ws.take i)
theorem os_succ {ws : List Stp} {i : Nat} {st : Stp} (hi : ws[i]? = some st) : osAt ws (i + 1) = opens (i : Int) (osAt ws i) [st] := by
  show opens 0 [] (ws.take (i + 1)) = _
  rw [take_succ hi, opens_append, take_len hi, Int.zero_add]
theorem pr_succ {ws : List Stp} {i : Nat} {st : Stp} (hi : ws[i]? = some st) : prAt ws (i + 1) = prAt ws i ++ clo (i : Int) (osAt ws i) [st] := by
  show clo 0 [] (ws.take (i + 1)) = _
  rw [take_succ hi, clo_append, take_len hi, Int.zero_add]
theorem osAt_asc (ws : List Stp) (i : Nat) : Asc ((ws.take i).length) (osAt ws i) := by
  have h := opens_asc (ws.take i) 0 [] (asc_nil 0)
  rw [Int.zero_add] at h
  exact h
theorem os_num {ws : List Stp} {h i k : Nat} (r : run 0 ws = some h) (hi : ws[i]? = some (.num k)) : k < (osAt ws i).length := by
  obtain ⟨h', r', q⟩ := run_take r hi
  have e := opens_len (ws.take i) 0 [] r'
  show k < (opens 0 [] (ws.take i)).length
  rw [e]
  exact q k rfl
theorem os_le (ws : List Stp) (i : Nat) : (osAt ws i).length ≤ i := by
  have h : ∀ (r : List Stp) (p : Int) (os : List Int), (opens p os r).length ≤ os.length + r.length := by
    intro r
    induction r with
    | nil =>
      intro p os
      exact Nat.le_refl _
    | cons st r ih =>
      intro p os
      rw [List.length_cons]
      cases st with
      | lone =>
        have := ih (p + 1) os
        show (opens (p + 1) os r).length ≤ _
        omega
      | opn =>
        have := ih (p + 1) (os ++ [p])
        rw [List.length_append] at this
        show (opens (p + 1) (os ++ [p]) r).length ≤ _
        simp at this
        omega
      | num k =>
        have := ih (p + 1) (os.eraseIdx k)
        have q := (List.eraseIdx_sublist os k).length_le
        show (opens (p + 1) (os.eraseIdx k) r).length ≤ _
        omega
  have q := h (ws.take i) 0 []
  rw [List.length_take] at q
  simp at q
  show (opens 0 [] (ws.take i)).length ≤ i
  omega
theorem pr_le (ws : List Stp) (i : Nat) : (prAt ws i).length ≤ i := by
  have h : ∀ (r : List Stp) (p : Int) (os : List Int), (clo p os r).length ≤ r.length := by
    intro r
    induction r with
    | nil =>
      intro p os
      exact Nat.le_refl _
    | cons st r ih =>
      intro p os
      rw [List.length_cons]
      cases st with
      | lone => exact Nat.le_succ_of_le (ih (p + 1) os)
      | opn => exact Nat.le_succ_of_le (ih (p + 1) (os ++ [p]))
      | num k => exact Nat.succ_le_succ (ih (p + 1) (os.eraseIdx k))
  have q := h (ws.take i) 0 []
  rw [List.length_take] at q
  show (clo 0 [] (ws.take i)).length ≤ i
  omega
/-- the pairs of a walk, sorted -/
def prs (ws : List Stp) : List Pr := sortP (clo 0 [] ws)
theorem prAt_all (ws : List Stp) : prAt ws ws.length = clo 0 [] ws := by
  show clo 0 [] (ws.take ws.length) = _
  rw [List.take_length]
theorem step_at {ws : List Stp} {i : Nat} (hi : i < ws.length) : ∃ st, ws[i]? = some st ∧ (ws.map Stp.v)[i]? = some st.v := by
  refine ⟨ws[i], List.getElem?_eq_getElem hi, ?_⟩
  rw [List.getElem?_map, List.getElem?_eq_getElem hi]
  rfl
/-- where the pairs of a walk begin and end -/
theorem clo_fst : ∀ (ws : List Stp) (p : Int) (os : List Int) {h : Nat}, Asc p os → run os.length ws = some h → ((clo p os ws).map Prod.fst).Nodup ∧ ∀ x ∈ clo p os ws, (x.1 ∈ os ∨ p ≤ x.1) ∧ x.1 < x.2 ∧ p ≤ x.2
  | [], p, os, h, _, _ => ⟨List.Pairwise.nil, fun x m => absurd m List.not_mem_nil⟩
  | .lone :: r, p, os, h, a, e => by
    obtain ⟨h1, h2⟩ := clo_fst r (p + 1) os a.lone e
    refine ⟨h1, fun x m => ?_⟩
    obtain ⟨z, z2, z3⟩ := h2 x m
    refine ⟨z.imp id fun q => by omega, z2, by omega⟩
  | .opn :: r, p, os, h, a, e => by
    obtain ⟨h1, h2⟩ := clo_fst r (p + 1) (os ++ [p]) a.opn (by rw [List.length_append]; exact e)
    refine ⟨h1, fun x m => ?_⟩
    obtain ⟨z, z2, z3⟩ := h2 x m
    refine ⟨?_, z2, by omega⟩
    rcases z with z | z
    · rcases List.mem_append.mp z with z | z
      · exact .inl z
      · rw [List.mem_singleton.mp z]
        exact .inr (Int.le_refl _)
    · exact .inr (by omega)
  | .num k :: r, p, os, h, a, e => by
    have e2 : (if k < os.length then run (os.length - 1) r else none) = some h := e
    by_cases c : k < os.length
    · rw [if_pos c] at e2
      obtain ⟨h1, h2⟩ := clo_fst r (p + 1) (os.eraseIdx k) (a.num k) (by rw [List.length_eraseIdx, if_pos c]; exact e2)
      have hm : os.getD k 0 ∈ os := by
        rw [List.getD_eq_getElem?_getD, List.getElem?_eq_getElem c]
        exact List.getElem_mem c
      have hlt := a.2 _ hm
      refine ⟨?_, fun x m => ?_⟩
      · show (os.getD k 0 :: (clo (p + 1) (os.eraseIdx k) r).map Prod.fst).Nodup
        refine List.nodup_cons.mpr ⟨fun m => ?_, h1⟩
        obtain ⟨x, hx, ex⟩ := List.mem_map.mp m
        rcases (h2 x hx).1 with z | z
        · rw [← filter_ne_eraseIdx os k a.nodup c] at z
          have := (List.mem_filter.mp z).2
          rw [ex] at this
          simp at this
        · omega
      · rcases List.mem_cons.mp m with m | m
        · rw [m]
          exact ⟨.inl hm, hlt, Int.le_refl _⟩
        · obtain ⟨z, z2, z3⟩ := h2 x m
          refine ⟨?_, z2, by omega⟩
          rcases z with z | z
          · exact .inl (List.mem_of_mem_eraseIdx z)
          · exact .inr (by omega)
    · rw [if_neg c] at e2
      cases e2
theorem prs_perm (ws : List Stp) : (prs ws).Perm (clo 0 [] ws) := sortP_perm _
theorem prs_nodup {ws : List Stp} {h : Nat} (r : run 0 ws = some h) : ((prs ws).map Prod.fst).Nodup := ((prs_perm ws).map Prod.fst).nodup_iff.mpr (clo_fst ws 0 [] (asc_nil 0) r).1
theorem clo_len (ws : List Stp) : (clo 0 [] ws).length ≤ ws.length := by
  have h := pr_le ws ws.length
  rw [prAt_all] at h
  exact h
theorem prs_len (ws : List Stp) : (prs ws).length ≤ ws.length := by
  unfold prs
  rw [sortP_len]
  exact clo_len ws
theorem drop_step {α : Type} {ws : List α} {i : Nat} {st : α} (hi : ws[i]? = some st) : ws.drop i = st :: ws.drop (i + 1) := by
  have hl := (List.getElem?_eq_some_iff.mp hi).1
  rw [List.drop_eq_getElem_cons hl, (List.getElem?_eq_some_iff.mp hi).2]
theorem run_succ {ws : List Stp} {i h : Nat} {st : Stp} (hi : ws[i]? = some st) (r : run 0 (ws.take i) = some h) : run 0 (ws.take (i + 1)) = run h [st] := by
  rw [take_succ hi, run_append, r]
  rfl
end Pg
namespace Pg
open PySem L2
/-! ### data that may be compared -/
/-- of a depth of d at most -/
def Shp (d : Nat) (x : PyData) : Prop := x.canLay0 = true ∧ x.depth ≤ d
theorem Shp.mono {d e : Nat} {x : PyData} (h : Shp d x) (l : d ≤ e) : Shp e x := ⟨h.1, Nat.le_trans h.2 l⟩
theorem Shp.shaped {d : Nat} {x : PyData} (h : Shp d x) (l : d ≤ 64 := by decide) : SeqAt.shaped x = true := by
  show (x.canLay0 && decide (x.depth ≤ 64)) = true
  rw [Bool.and_eq_true]
  exact ⟨h.1, decide_eq_true (Nat.le_trans h.2 l)⟩
theorem Shp.refl {d : Nat} {x : PyData} (h : Shp d x) : PyData.eqv x x = true := SeqAt.eqv_refl x h.1
theorem shp_all {d : Nat} : ∀ {xs : List PyData}, (∀ x ∈ xs, Shp d x) → PyData.canLayAll0 xs = true ∧ PyData.depthAll xs ≤ d
  | [], _ => ⟨by simp [PyData.canLayAll0], by simp [PyData.depthAll]⟩
  | x :: r, h => by
    obtain ⟨h1, h2⟩ := shp_all (xs := r) fun y m => h y (List.mem_cons_of_mem _ m)
    obtain ⟨h3, h4⟩ := h x List.mem_cons_self
    refine ⟨by simp [PyData.canLayAll0, h1, h3], ?_⟩
    simp only [PyData.depthAll]
    omega
theorem shp_lst {d : Nat} {xs : List PyData} (h : ∀ x ∈ xs, Shp d x) : Shp (d + 1) (.list xs) := by
  obtain ⟨h1, h2⟩ := shp_all h
  refine ⟨by simpa [PyData.canLay0] using h1, ?_⟩
  simp only [PyData.depth]
  omega
theorem shp_tup {d : Nat} {xs : List PyData} (h : ∀ x ∈ xs, Shp d x) : Shp (d + 1) (.tuple xs) := by
  obtain ⟨h1, h2⟩ := shp_all h
  refine ⟨by simpa [PyData.canLay0] using h1, ?_⟩
  simp only [PyData.depth]
  omega
theorem shp_int {d : Nat} (i : Int) : Shp d (.int i) := ⟨by simp [PyData.canLay0], by simp [PyData.depth]⟩
theorem shp_bool {d : Nat} (i : Bool) : Shp d (.bool i) := ⟨by simp [PyData.canLay0], by simp [PyData.depth]⟩
theorem shp_prD (p : Pr) : Shp 1 (prD p) := shp_tup fun x m => by
  rcases List.mem_cons.mp m with e | m
  · rw [e]
    exact shp_int _
  · rw [List.mem_singleton.mp m]
    exact shp_int _
theorem shp_prsD (ps : List Pr) : Shp 2 (prsD ps) := shp_tup fun x m => by
  obtain ⟨p, _, e⟩ := List.mem_map.mp m
  rw [← e]
  exact shp_prD p
theorem shp_pgD (n : Int) (ps : List Pr) : Shp 3 (pgD n ps) := shp_tup fun x m => by
  rcases List.mem_cons.mp m with e | m
  · rw [e]
    exact shp_int _
  · rw [List.mem_singleton.mp m]
    exact shp_prsD _
theorem prD_eqv (p q : Pr) : PyData.eqv (prD p) (prD q) = decide (p = q) := by
  obtain ⟨a, b⟩ := p
  obtain ⟨c, d⟩ := q
  show PyData.eqv (.tuple [.int a, .int b]) (.tuple [.int c, .int d]) = _
  simp only [PyData.eqv, PyData.eqvAll, Bool.and_true, Prod.mk.injEq]
  rw [Bool.eq_iff_iff]
  simp
theorem eqvAll_map {α : Type} [DecidableEq α] (f : α → PyData) (h : ∀ x y, PyData.eqv (f x) (f y) = decide (x = y)) : ∀ xs ys : List α, PyData.eqvAll (xs.map f) (ys.map f) = decide (xs = ys)
  | [], [] => by simp [PyData.eqvAll]
  | [], _ :: _ => by simp [PyData.eqvAll]
  | _ :: _, [] => by simp [PyData.eqvAll]
  | x :: xs, y :: ys => by
    simp only [List.map_cons, PyData.eqvAll, h x y, eqvAll_map f h xs ys, List.cons.injEq]
    rw [Bool.eq_iff_iff]
    simp
theorem prsD_eqv (ps qs : List Pr) : PyData.eqv (prsD ps) (prsD qs) = decide (ps = qs) := by
  unfold prsD
  simp only [PyData.eqv]
  exact eqvAll_map prD prD_eqv ps qs
theorem pgD_eqv (n m : Int) (ps qs : List Pr) : PyData.eqv (pgD n ps) (pgD m qs) = (decide (n = m) && decide (ps = qs)) := by
  unfold pgD
  simp only [PyData.eqv, PyData.eqvAll, prsD_eqv, Bool.and_true]
  rw [Bool.eq_iff_iff]
  simp
/-- a walk's steps -/
def Stp.d : Stp → PyData
  | .lone => .str "lone"
  | .opn => .str "open"
  | .num k => .int (k : Int)
theorem stp_dp {K : PySem.W.Frag} {H : Hp} : ∀ st : Stp, Dp K H st.v st.d
  | .lone => .str _
  | .opn => .str _
  | .num _ => .int _
theorem stps_dp {K : PySem.W.Frag} {H : Hp} : ∀ ws : List Stp, DpAll K H (ws.map Stp.v) (ws.map Stp.d)
  | [] => .nil
  | st :: r => .cons (stp_dp st) (stps_dp r)
theorem shp_stp : ∀ st : Stp, Shp 0 st.d
  | .lone => ⟨by decide +kernel, by decide +kernel⟩
  | .opn => ⟨by decide +kernel, by decide +kernel⟩
  | .num k => shp_int _
theorem shp_stps (ws : List Stp) : Shp 1 (.list (ws.map Stp.d)) := shp_lst fun x m => by
  obtain ⟨st, _, e⟩ := List.mem_map.mp m
  rw [← e]
  exact shp_stp st
theorem scal_stp : ∀ a b : Stp, scal a.v b.v = true
  | .lone, .lone => rfl
  | .lone, .opn => rfl
  | .lone, .num _ => rfl
  | .opn, .lone => rfl
  | .opn, .opn => rfl
  | .opn, .num _ => rfl
  | .num _, .lone => rfl
  | .num _, .opn => rfl
  | .num _, .num _ => rfl
/-! ### lists of truth values -/
theorem bools_dp {K : PySem.W.Frag} {H : Hp} : ∀ bs : List Bool, DpAll K H (bs.map V.bl) (bs.map PyData.bool)
  | [] => .nil
  | b :: r => .cons (.bl b) (bools_dp r)
theorem shp_bools (bs : List Bool) : Shp 1 (.list (bs.map PyData.bool)) := shp_lst fun x m => by
  obtain ⟨b, _, e⟩ := List.mem_map.mp m
  rw [← e]
  exact shp_bool b
end Pg
namespace Pg
open PySem L2
/-! ### points and their partners -/
def pts (ps : List Pr) : List Int := ps.flatMap fun q => [q.1, q.2]
theorem pts_cons (q : Pr) (r : List Pr) : pts (q :: r) = q.1 :: q.2 :: pts r := rfl
theorem mem_pts {ps : List Pr} {x : Int} : x ∈ pts ps ↔ ∃ q ∈ ps, x = q.1 ∨ x = q.2 := by
  unfold pts
  rw [List.mem_flatMap]
  constructor
  · rintro ⟨q, hq, hx⟩
    exact ⟨q, hq, by simpa using hx⟩
  · rintro ⟨q, hq, hx⟩
    exact ⟨q, hq, by simpa using hx⟩
theorem pts_perm {ps qs : List Pr} (h : ps.Perm qs) : (pts ps).Perm (pts qs) := h.flatMap_right _
theorem clo_pts : ∀ (ws : List Stp) (p : Int) (os : List Int) {h : Nat}, Asc p os → run os.length ws = some h → (pts (clo p os ws)).Nodup ∧ ∀ x ∈ pts (clo p os ws), (x ∈ os ∨ p ≤ x) ∧ x < p + ws.length
  | [], p, os, h, _, _ => ⟨List.Pairwise.nil, fun x m => absurd m List.not_mem_nil⟩
  | .lone :: r, p, os, h, a, e => by
    obtain ⟨h1, h2⟩ := clo_pts r (p + 1) os a.lone e
    refine ⟨h1, fun x m => ?_⟩
    obtain ⟨z, z2⟩ := h2 x m
    rw [List.length_cons]
    exact ⟨z.imp id fun q => by omega, by omega⟩
  | .opn :: r, p, os, h, a, e => by
    obtain ⟨h1, h2⟩ := clo_pts r (p + 1) (os ++ [p]) a.opn (by rw [List.length_append]; exact e)
    refine ⟨h1, fun x m => ?_⟩
    obtain ⟨z, z2⟩ := h2 x m
    rw [List.length_cons]
    refine ⟨?_, by omega⟩
    rcases z with z | z
    · rcases List.mem_append.mp z with z | z
      · exact .inl z
      · rw [List.mem_singleton.mp z]
        exact .inr (Int.le_refl _)
    · exact .inr (by omega)
  | .num k :: r, p, os, h, a, e => by
    have e2 : (if k < os.length then run (os.length - 1) r else none) = some h := e
    by_cases c : k < os.length
    · rw [if_pos c] at e2
      obtain ⟨h1, h2⟩ := clo_pts r (p + 1) (os.eraseIdx k) (a.num k) (by rw [List.length_eraseIdx, if_pos c]; exact e2)
      have hm : os.getD k 0 ∈ os := by
        rw [List.getD_eq_getElem?_getD, List.getElem?_eq_getElem c]
        exact List.getElem_mem c
      have hlt := a.2 _ hm
      have n1 : os.getD k 0 ∉ pts (clo (p + 1) (os.eraseIdx k) r) := fun m => by
        rcases (h2 _ m).1 with z | z
        · rw [← filter_ne_eraseIdx os k a.nodup c] at z
          have := (List.mem_filter.mp z).2
          simp at this
        · omega
      have n2 : p ∉ pts (clo (p + 1) (os.eraseIdx k) r) := fun m => by
        rcases (h2 _ m).1 with z | z
        · have := a.2 _ (List.mem_of_mem_eraseIdx z)
          omega
        · omega
      refine ⟨?_, fun x m => ?_⟩
      · show (os.getD k 0 :: p :: pts (clo (p + 1) (os.eraseIdx k) r)).Nodup
        refine List.nodup_cons.mpr ⟨fun m => ?_, List.nodup_cons.mpr ⟨n2, h1⟩⟩
        rcases List.mem_cons.mp m with m | m
        · omega
        · exact n1 m
      · have m2 : x ∈ os.getD k 0 :: p :: pts (clo (p + 1) (os.eraseIdx k) r) := m
        rw [List.length_cons]
        rcases List.mem_cons.mp m2 with m | m
        · rw [m]
          exact ⟨.inl hm, by omega⟩
        · rcases List.mem_cons.mp m with m | m
          · rw [m]
            exact ⟨.inr (Int.le_refl _), by omega⟩
          · obtain ⟨z, z2⟩ := h2 x m
            refine ⟨?_, by omega⟩
            rcases z with z | z
            · exact .inl (List.mem_of_mem_eraseIdx z)
            · exact .inr (by omega)
    · rw [if_neg c] at e2
      cases e2
/-- what is open is closed, where none is left open -/
theorem clo_closed : ∀ (ws : List Stp) (p : Int) (os : List Int), run os.length ws = some 0 → ∀ o ∈ os, ∃ b, (o, b) ∈ clo p os ws ∧ p ≤ b
  | [], p, os, e, o, m => by
    have e1 : os.length = 0 := Option.some.inj e
    rw [List.length_eq_zero_iff.mp e1] at m
    exact absurd m List.not_mem_nil
  | .lone :: r, p, os, e, o, m => by
    obtain ⟨b, hb, z⟩ := clo_closed r (p + 1) os e o m
    exact ⟨b, hb, by omega⟩
  | .opn :: r, p, os, e, o, m => by
    obtain ⟨b, hb, z⟩ := clo_closed r (p + 1) (os ++ [p]) (by rw [List.length_append]; exact e) o (List.mem_append_left _ m)
    exact ⟨b, hb, by omega⟩
  | .num k :: r, p, os, e, o, m => by
    have e2 : (if k < os.length then run (os.length - 1) r else none) = some 0 := e
    by_cases c : k < os.length
    · rw [if_pos c] at e2
      by_cases q : o = os.getD k 0
      · exact ⟨p, by rw [q]; exact List.mem_cons_self, Int.le_refl _⟩
      · have hm : o ∈ os.eraseIdx k := by
          obtain ⟨i, hi, ei⟩ := List.mem_iff_getElem.mp m
          have ne : i ≠ k := by
            intro z
            apply q
            rw [List.getD_eq_getElem?_getD, List.getElem?_eq_getElem c, ← ei]
            subst z
            rfl
          exact List.mem_eraseIdx_iff_getElem?.mpr ⟨i, ne, by rw [List.getElem?_eq_getElem hi, ei]⟩
        obtain ⟨b, hb, z⟩ := clo_closed r (p + 1) (os.eraseIdx k) (by rw [List.length_eraseIdx, if_pos c]; exact e2) o hm
        exact ⟨b, List.mem_cons_of_mem _ hb, by omega⟩
    · rw [if_neg c] at e2
      cases e2
/-- what stands at each point: none, or the partner -/
def mateStep (l : List V) (p : Pr) : List V := (l.set p.1.toNat (.int p.2)).set p.2.toNat (.int p.1)
def mateV (n : Int) (ps : List Pr) : List V := ps.foldl mateStep (List.replicate n.toNat .non)
theorem mateStep_len (l : List V) (p : Pr) : (mateStep l p).length = l.length := by
  unfold mateStep
  rw [List.length_set, List.length_set]
theorem mateF_len : ∀ (ps : List Pr) (l : List V), (ps.foldl mateStep l).length = l.length
  | [], l => rfl
  | p :: r, l => by
    show (r.foldl mateStep (mateStep l p)).length = _
    rw [mateF_len r, mateStep_len]
theorem mateV_len (n : Int) (ps : List Pr) : (mateV n ps).length = n.toNat := by
  unfold mateV
  rw [mateF_len, List.length_replicate]
theorem mate_other : ∀ (ps : List Pr) (l : List V) (i : Nat), (i : Int) ∉ pts ps → (∀ x ∈ pts ps, 0 ≤ x) → (ps.foldl mateStep l)[i]? = l[i]?
  | [], l, i, _, _ => rfl
  | p :: r, l, i, h, h0 => by
    show (r.foldl mateStep (mateStep l p))[i]? = _
    rw [pts_cons] at h h0
    have a := h0 p.1 List.mem_cons_self
    have b := h0 p.2 (List.mem_cons_of_mem _ List.mem_cons_self)
    have e1 : i ≠ p.1.toNat := fun e => h (by rw [e, Int.toNat_of_nonneg a]; exact List.mem_cons_self)
    have e2 : i ≠ p.2.toNat := fun e => h (by rw [e, Int.toNat_of_nonneg b]; exact List.mem_cons_of_mem _ List.mem_cons_self)
    rw [mate_other r _ i (fun m => h (List.mem_cons_of_mem _ (List.mem_cons_of_mem _ m))) (fun x m => h0 x (List.mem_cons_of_mem _ (List.mem_cons_of_mem _ m)))]
    unfold mateStep
    rw [List.getElem?_set_ne (Ne.symm e2), List.getElem?_set_ne (Ne.symm e1)]
theorem mate_mem : ∀ (ps : List Pr) (l : List V), (pts ps).Nodup → (∀ x ∈ pts ps, 0 ≤ x ∧ x < l.length) → ∀ q ∈ ps, (ps.foldl mateStep l)[q.1.toNat]? = some (.int q.2) ∧ (ps.foldl mateStep l)[q.2.toNat]? = some (.int q.1)
  | [], l, _, _, q, m => absurd m List.not_mem_nil
  | p :: r, l, nd, h0, q, m => by
    show (r.foldl mateStep (mateStep l p))[q.1.toNat]? = _ ∧ (r.foldl mateStep (mateStep l p))[q.2.toNat]? = _
    rw [pts_cons] at nd h0
    obtain ⟨n1, nd2⟩ := List.nodup_cons.mp nd
    obtain ⟨n2, nd3⟩ := List.nodup_cons.mp nd2
    have a := h0 p.1 List.mem_cons_self
    have b := h0 p.2 (List.mem_cons_of_mem _ List.mem_cons_self)
    have hr : ∀ x ∈ pts r, 0 ≤ x := fun x m => (h0 x (List.mem_cons_of_mem _ (List.mem_cons_of_mem _ m))).1
    rcases List.mem_cons.mp m with e | m
    · subst e
      have ne : q.1 ≠ q.2 := fun e => n1 (by rw [e]; exact List.mem_cons_self)
      have n3 : ((q.1.toNat : Nat) : Int) ∉ pts r := by
        rw [Int.toNat_of_nonneg a.1]
        exact fun m => n1 (List.mem_cons_of_mem _ m)
      have n4 : ((q.2.toNat : Nat) : Int) ∉ pts r := by
        rw [Int.toNat_of_nonneg b.1]
        exact n2
      rw [mate_other r _ _ n3 hr, mate_other r _ _ n4 hr]
      unfold mateStep
      constructor
      · rw [List.getElem?_set_ne (by omega), List.getElem?_set_self (by omega)]
      · rw [List.getElem?_set_self (by rw [List.length_set]; omega)]
    · refine mate_mem r _ nd3 (fun x mx => ?_) q m
      rw [mateStep_len]
      exact h0 x (List.mem_cons_of_mem _ (List.mem_cons_of_mem _ mx))
/-- the partners in a walk's pairing -/
theorem prs_pts {ws : List Stp} {h : Nat} (r : run 0 ws = some h) : (pts (prs ws)).Nodup ∧ ∀ x ∈ pts (prs ws), 0 ≤ x ∧ x < ws.length := by
  obtain ⟨h1, h2⟩ := clo_pts ws 0 [] (asc_nil 0) r
  have pm := pts_perm (prs_perm ws)
  refine ⟨pm.nodup_iff.mpr h1, fun x m => ?_⟩
  obtain ⟨z, z2⟩ := h2 x (pm.mem_iff.mp m)
  refine ⟨?_, by omega⟩
  rcases z with z | z
  · exact absurd z List.not_mem_nil
  · exact z
theorem clo_split {ws : List Stp} {i : Nat} {st : Stp} (hi : ws[i]? = some st) : clo 0 [] ws = prAt ws i ++ clo (i : Int) (osAt ws i) (st :: ws.drop (i + 1)) := by
  have hl := (List.getElem?_eq_some_iff.mp hi).1
  have ed : ws.drop i = st :: ws.drop (i + 1) := by
    rw [List.drop_eq_getElem_cons hl, (List.getElem?_eq_some_iff.mp hi).2]
  have e : ws = ws.take i ++ (st :: ws.drop (i + 1)) := by
    rw [← ed]
    exact (List.take_append_drop i ws).symm
  have q : clo 0 [] (ws.take i ++ (st :: ws.drop (i + 1))) = _ := clo_append 0 [] (ws.take i) (st :: ws.drop (i + 1))
  rw [take_len hi, Int.zero_add] at q
  rw [← e] at q
  exact q
theorem run_drop {ws : List Stp} {i h : Nat} {st : Stp} (r : run 0 ws = some h) (hi : ws[i]? = some st) : run (osAt ws i).length (st :: ws.drop (i + 1)) = some h := by
  have hl := (List.getElem?_eq_some_iff.mp hi).1
  have ed : ws.drop i = st :: ws.drop (i + 1) := by
    rw [List.drop_eq_getElem_cons hl, (List.getElem?_eq_some_iff.mp hi).2]
  obtain ⟨h', r', _⟩ := run_take r hi
  have e1 := opens_len (ws.take i) 0 [] r'
  have r2 := r
  rw [← List.take_append_drop i ws, run_append, r', ed] at r2
  show run (opens 0 [] (ws.take i)).length _ = _
  rw [e1]
  exact r2
theorem mate_lone {ws : List Stp} {h i : Nat} (r : run 0 ws = some h) (hi : ws[i]? = some .lone) : (mateV (ws.length : Int) (prs ws))[i]? = some .non := by
  have hl := (List.getElem?_eq_some_iff.mp hi).1
  obtain ⟨h1, h2⟩ := prs_pts r
  unfold mateV
  rw [mate_other _ _ _ (fun m => ?_) (fun x m => (h2 x m).1)]
  · rw [List.getElem?_replicate, if_pos (by omega)]
  · have m1 := (pts_perm (prs_perm ws)).mem_iff.mp m
    rw [clo_split hi] at m1
    have m2 : (i : Int) ∈ pts (prAt ws i) ∨ (i : Int) ∈ pts (clo (i : Int) (osAt ws i) (.lone :: ws.drop (i + 1))) := by
      obtain ⟨q, hq, z⟩ := mem_pts.mp m1
      rcases List.mem_append.mp hq with hq | hq
      · exact .inl (mem_pts.mpr ⟨q, hq, z⟩)
      · exact .inr (mem_pts.mpr ⟨q, hq, z⟩)
    obtain ⟨h', r', _⟩ := run_take r hi
    have tl := take_len hi
    rcases m2 with m2 | m2
    · have := ((clo_pts (ws.take i) 0 [] (asc_nil 0) r').2 _ m2).2
      omega
    · have asc := osAt_asc ws i
      rw [tl] at asc
      have rd : run (osAt ws i).length (ws.drop (i + 1)) = some h := run_drop r hi
      have := ((clo_pts (ws.drop (i + 1)) ((i : Int) + 1) (osAt ws i) asc.lone rd).2 _ m2).1
      rcases this with z | z
      · have := asc.2 _ z
        omega
      · omega
theorem mate_num {ws : List Stp} {h i k : Nat} (r : run 0 ws = some h) (hi : ws[i]? = some (.num k)) : (mateV (ws.length : Int) (prs ws))[i]? = some (.int ((osAt ws i).getD k 0)) := by
  obtain ⟨h1, h2⟩ := prs_pts r
  have m : (((osAt ws i).getD k 0, (i : Int)) : Pr) ∈ prs ws := (prs_perm ws).mem_iff.mpr (by
    rw [clo_split hi]
    exact List.mem_append_right _ List.mem_cons_self)
  have q := (mate_mem (prs ws) (List.replicate ((ws.length : Int)).toNat .non) h1 (fun x mx => by
    have := h2 x mx
    rw [List.length_replicate]
    omega) _ m).2
  exact q
theorem mate_opn {ws : List Stp} {i : Nat} (r : run 0 ws = some 0) (hi : ws[i]? = some .opn) : ∃ b : Int, (i : Int) < b ∧ (mateV (ws.length : Int) (prs ws))[i]? = some (.int b) := by
  obtain ⟨h1, h2⟩ := prs_pts r
  have rd := run_drop r hi
  have rd2 : run (osAt ws i ++ [(i : Int)]).length (ws.drop (i + 1)) = some 0 := by
    rw [List.length_append]
    exact rd
  obtain ⟨b, hb, hlt⟩ := clo_closed (ws.drop (i + 1)) ((i : Int) + 1) (osAt ws i ++ [(i : Int)]) rd2 (i : Int) (List.mem_append_right _ (List.mem_singleton.mpr rfl))
  have m : (((i : Int), b) : Pr) ∈ prs ws := (prs_perm ws).mem_iff.mpr (by
    rw [clo_split hi]
    exact List.mem_append_right _ hb)
  have q := (mate_mem (prs ws) (List.replicate ((ws.length : Int)).toNat .non) h1 (fun x mx => by
    have := h2 x mx
    rw [List.length_replicate]
    omega) _ m).1
  exact ⟨b, by omega, q⟩
end Pg
/-! xs.count(y) of flat items: some number up to the length; lists of whole numbers and texts as walks -/
namespace Pg
open PySem PySem.Spec PyProof.Rows L2
def rCntF (K : PySem.W.Frag) : V → List V → Hp → VK → Prop := fun x xs H Q => ∃ (p : Addr) (ys : List V) (y : V), x = .ref p ∧ xs = [y] ∧ SqL K H p ys ∧ flatV y = true ∧ ys.all flatV = true ∧ ∀ m : Nat, m ≤ ys.length → Q (.int (m : Nat)) H
theorem mt_countF (K : PySem.W.Frag) {X : Cx} (e : X.K = K := by rfl) : MtR X "list.count" (rCntF K) := by
  subst e
  intro pins s σ H x xs v us Q I rx rxs h
  obtain ⟨p, ys, y, rfl, rfl, hs, fy, fys, q⟩ := h
  cases rx
  obtain ⟨u, rfl, ru⟩ := rxs.one
  obtain ⟨its, rv, ⟨o, n, ho, h1, h2, h3⟩, _⟩ := I.list hs
  obtain ⟨oc, od, oda, osl⟩ := o
  dsimp only at h1 h2 h3
  subst h1 h3
  refine call_meets PySem.F.slot_list_count ⟨_, ho, rfl⟩ PySem.F.entry_list_count (PySem.F.args_list_count_2 _ _) (SeqAt.list_countAt p its.toArray n od osl u (eqU y))
    ⟨ho, fun z hz => mem_eqAt ru fy rv fys z (by simpa using hz), .int ((its.toArray.toList.countP (eqU y) : Nat) : Int), H, I.tok _, ⟨s.toks, rfl⟩, ?_⟩
  refine q _ ?_
  rw [rv.length]
  exact List.countP_le_length
/-! ### lists of whole numbers and texts -/
def isIS : V → Bool
  | .int _ => true
  | .str _ => true
  | _ => false
theorem is_flat {x : V} (h : isIS x = true) : flatV x = true := by
  cases x <;> first | rfl | cases h
theorem stp_is : ∀ st : Stp, isIS st.v = true
  | .lone => rfl
  | .opn => rfl
  | .num _ => rfl
theorem stp_inj : ∀ a b : Stp, a.v = b.v → a = b
  | .lone, .lone, _ => rfl
  | .lone, .opn, h => absurd (V.str.inj h) (by decide +kernel)
  | .lone, .num _, h => nomatch h
  | .opn, .lone, h => absurd (V.str.inj h) (by decide +kernel)
  | .opn, .opn, _ => rfl
  | .opn, .num _, h => nomatch h
  | .num _, .lone, h => nomatch h
  | .num _, .opn, h => nomatch h
  | .num a, .num b, h => by
    have e : (a : Int) = (b : Int) := V.int.inj h
    rw [show a = b by omega]
theorem stps_inj : ∀ {a b : List Stp}, a.map Stp.v = b.map Stp.v → a = b
  | [], [], _ => rfl
  | [], _ :: _, h => nomatch h
  | _ :: _, [], h => nomatch h
  | x :: a, y :: b, h => by
    rw [List.map_cons, List.map_cons] at h
    obtain ⟨h1, h2⟩ := List.cons.inj h
    rw [stp_inj x y h1, stps_inj h2]
/-- the list writes the walk ws -/
structure WalkOf (xs : List V) (ws : List Stp) : Prop where
  eq : xs = ws.map Stp.v
  run : run 0 ws = some 0
  len : ws.length ≤ 60
theorem WalkOf.uniq {xs : List V} {a b : List Stp} (h : WalkOf xs a) (h' : WalkOf xs b) : a = b := stps_inj (h.eq.symm.trans h'.eq)
/-- a step that can't be -/
theorem no_walk_at {xs : List V} {ws : List Stp} {i h : Nat} {x : V} (ht : xs.take i = ws.map Stp.v) (hr : run 0 ws = some h) (hx : xs[i]? = some x) (bad : ∀ st : Stp, x = st.v → run h [st] = none) : ¬ ∃ w, WalkOf xs w := by
  rintro ⟨w, e, r, _⟩
  have hx2 : (w.map Stp.v)[i]? = some x := by rw [← e]; exact hx
  rw [List.getElem?_map] at hx2
  cases c : w[i]? with
  | none =>
    rw [c] at hx2
    cases hx2
  | some st =>
    rw [c] at hx2
    have ex : x = st.v := (Option.some.inj hx2).symm
    have et : w.take i = ws := stps_inj (by rw [List.map_take, ← e, ht])
    have es := run_drop r c
    rw [show (osAt w i).length = h from opens_len (w.take i) 0 [] (by rw [et]; exact hr)] at es
    have b := bad st ex
    have eapp : run h (st :: w.drop (i + 1)) = (run h [st]).bind fun h' => run h' (w.drop (i + 1)) := run_append h [st] _
    rw [eapp, b] at es
    cases es
/-- pairs that are still open -/
theorem no_walk_end {xs : List V} {ws : List Stp} {h : Nat} (ht : xs = ws.map Stp.v) (hr : run 0 ws = some h) (h0 : h ≠ 0) : ¬ ∃ w, WalkOf xs w := by
  rintro ⟨w, e, r, _⟩
  have ew : w = ws := stps_inj (e.symm.trans ht)
  rw [ew, hr] at r
  exact h0 (Option.some.inj r)
theorem no_walk_long {xs : List V} (hl : 60 < xs.length) : ¬ ∃ w, WalkOf xs w := by
  rintro ⟨w, e, _, l⟩
  rw [e, List.length_map] at hl
  omega
theorem num_bad {z : Int} {h : Nat} (hz : z < 0 ∨ (h : Int) ≤ z) : ∀ st : Stp, V.int z = st.v → run h [st] = none := by
  intro st e
  cases st with
  | lone => cases e
  | opn => cases e
  | num k =>
    have ek : z = (k : Int) := V.int.inj e
    show (if k < h then run (h - 1) [] else none) = none
    rw [if_neg (by omega)]
theorem str_bad {x : Str} {h : Nat} (h1 : x ≠ "open") (h2 : x ≠ "lone") : ∀ st : Stp, V.str x = st.v → run h [st] = none := by
  intro st e
  cases st with
  | lone => exact absurd (V.str.inj e) h2
  | opn => exact absurd (V.str.inj e) h1
  | num k => cases e
theorem cutV_mem {xs : List V} {lo hi : Option Int} {x : V} (h : x ∈ cutV xs lo hi) : x ∈ xs := by
  unfold cutV at h
  exact List.mem_of_mem_drop (List.mem_of_mem_take h)
theorem all_flat {xs : List V} (h : ∀ x ∈ xs, isIS x = true) : xs.all flatV = true := List.all_eq_true.mpr fun x m => is_flat (h x m)
theorem is_stps (ws : List Stp) : ∀ x ∈ ws.map Stp.v, isIS x = true := fun x m => by
  obtain ⟨st, _, e⟩ := List.mem_map.mp m
  rw [← e]
  exact stp_is st
end Pg
namespace Pg
open PySem L2
def topS (i : Nat) : Stmt := PySem.Challenge.pw_pairlings_k05_lists_that_are_no_walks.main.body.getD i (.Pass ⟨0, 0, 0, 0⟩)
structure CA where
  PairError : Addr
  NoPairing : Addr
  NoWalk : Addr
  NoNumber : Addr
  TooMany : Addr
  BadNote : Addr
/-- what the top has left of the names that the defs read -/
structure Txt (K : PySem.W.Frag) (mg : Str → Option Value) (ca : CA) : Prop where
  z_ValueError : mg "ValueError" = none
  z_bool : mg "bool" = none
  z_int : mg "int" = none
  z_isinstance : mg "isinstance" = none
  z_len : mg "len" = none
  z_list : mg "list" = none
  z_range : mg "range" = none
  z_sorted : mg "sorted" = none
  z_str : mg "str" = none
  z_tuple : mg "tuple" = none
  g_MOST : ∃ t, mg "MOST" = some (.int 60 t)
  g_PairError : mg "PairError" = some (.ref ca.PairError)
  g_NoPairing : mg "NoPairing" = some (.ref ca.NoPairing)
  g_NoWalk : mg "NoWalk" = some (.ref ca.NoWalk)
  g_NoNumber : mg "NoNumber" = some (.ref ca.NoNumber)
  g_TooMany : mg "TooMany" = some (.ref ca.TooMany)
  g_BadNote : mg "BadNote" = some (.ref ca.BadNote)
  x_NoWalk : PySem.W.excIn K ca.NoWalk [.type "ValueError", .type "Exception", .type "BaseException", .type "object"] "ValueError.__new__" = true
  k_NoWalk : PySem.W.keepIn K (.ref ca.NoWalk) = true
  b_NoWalk : PySem.W.subIn K (.ref ca.NoWalk) (.type "BaseException") = some true
  t_NoWalk : PySem.W.typeIn K (.ref ca.NoWalk) = some (.type "type")
  me_NoWalk : PySem.W.exmOne K (.ref ca.NoWalk) (.ref ca.PairError) = some true
  ec_NoWalk : ExcC K ca.NoWalk
  i_NoWalk_NoPairing : PySem.W.kitOne K (.ref ca.NoWalk) (.ref ca.NoPairing) = some false
  i_NoWalk_NoWalk : PySem.W.kitOne K (.ref ca.NoWalk) (.ref ca.NoWalk) = some true
  i_NoWalk_NoNumber : PySem.W.kitOne K (.ref ca.NoWalk) (.ref ca.NoNumber) = some false
  i_NoWalk_TooMany : PySem.W.kitOne K (.ref ca.NoWalk) (.ref ca.TooMany) = some false
  i_NoWalk_BadNote : PySem.W.kitOne K (.ref ca.NoWalk) (.ref ca.BadNote) = some false
  i_NoWalk_VE : PySem.W.kitOne K (.ref ca.NoWalk) (.type "ValueError") = some true
end Pg

namespace Pg
open PySem L2
section
variable {P : Program} {w : World} {K : PySem.W.Frag} {mg : Str → Option Value} {base : Heap} {ca : CA}
abbrev s_law_spoiled : Stmt := topS 21
theorem sc_law_spoiled : FnScope ["walk", "cell", "far", "at", "height", "step", "way"] ["walk", "cell"] (defScope s_law_spoiled) := ⟨rfl, rfl, rfl, by decide +kernel, rfl, by decide +kernel, by decide +kernel⟩
/-- some list of whole numbers and texts -/
def sp_law_spoiled (K : PySem.W.Frag) : Sp := fun vs H Q _ => ∃ (a : Addr) (c : Int) (ws : List Stp), vs = [.ref a, .int c] ∧ H a = some (.lst (ws.map Stp.v)) ∧ ws.length ≤ 60 ∧
  ∀ (H' : Hp) (q : Addr) (xs : List V), Same H H' → H q = none → H' q = some (.lst xs) → (∀ x ∈ xs, isIS x = true) → xs.length ≤ 200 → Q (.ref q) H'
def isI : V → Bool
  | .int _ => true
  | _ => false
theorem ok_law_spoiled (T : Txt K mg ca) (D : Def K mg "_law_spoiled" ["walk", "cell"] s_law_spoiled) : Known P w K mg base CX0 1 "_law_spoiled" ["walk", "cell"] (sp_law_spoiled K) := by
  refine D.known fun f fd F => F.ok sc_law_spoiled (fun vs H Q E h => ?_) (fun cdv A outer s H vs Q E hr h => ?_)
  · obtain ⟨_, _, _, rfl, _⟩ := h
    rfl
  · obtain ⟨a, c, ws, rfl, hA, hlen, q⟩ := h
    obtain ⟨xs, exs⟩ : ∃ xs, xs = ws.map Stp.v := ⟨_, rfl⟩
    have his : ∀ x ∈ xs, isIS x = true := by rw [exs]; exact is_stps ws
    rw [← exs] at hA
    have hl : xs.length ≤ 60 := by rw [exs, List.length_map]; exact hlen
    refine ⟨_, (pss_cons (ps_set (i := 2) sc_law_spoiled.nd rfl (Or.inl rfl) (pe_op op_mod (pe_op op_fdiv (pv 1) pe_int) (pe_op op_pow pe_int pe_int)))
      (pss_cons (ps_set (i := 3) sc_law_spoiled.nd rfl (Or.inl rfl) (pe_op op_mod (pe_op op_fdiv (pv 1) pe_int) (pe_op op_add (pe_callB (callLen K) (by rfl) T.z_len PySem.boot_len (pa_cons (pv 0) pa_nil)) pe_int)))
      (pss_cons (ps_set (i := 4) sc_law_spoiled.nd rfl (Or.inl rfl) (pe_op op_sub (peM K PySem.F.plainAttrs_list PySem.F.slot_list_count PySem.F.type_list_count (mt_countF K) (pe_slice (slL K) (pv 0) po_none (po_some (pv 3))) (pa_cons pe_str pa_nil)) (pe_callB (callLen K) (by rfl) T.z_len PySem.boot_len (pa_cons (pe_lc (own := [("step", 5)]) (g := gName 5) (tt := _) rfl sc_law_spoiled.nd (piL K (pe_slice (slL K) (pv 0) po_none (po_some (pv 3)))) (blkOk_by (N := ["walk", "cell", "far", "at", "height", "step", "way"]) (sc := defScope s_law_spoiled) (by decide +kernel)) (fun _ _ _ _ _ => (pg_name (i := 5) sc_law_spoiled.nd rfl (Or.inl rfl))) (fun _ _ _ _ _ => (pts_one (pt_not (pt_val (pe_callB (callIsi K) (by rfl) T.z_isinstance (by decide +kernel) (pa_cons (pv 5) (pa_cons (pe_bltn (v := .ty "str") (by rfl) T.z_str (by decide +kernel) rfl) pa_nil))))))) (fun _ _ _ _ _ => (pv 5))) pa_nil))))
      (pss_cons (ps_set (i := 5) sc_law_spoiled.nd rfl (Or.inl rfl) (pe_ix (ixL K) (pe_lst (pa_cons pe_str (pa_cons (pe_un un_neg pe_int) (pa_cons (pv 4) (pa_cons (pe_op op_add (pv 4) (pv 2)) (pa_cons (pe_op op_sub (pe_un un_neg pe_int) (pv 2)) (pa_cons pe_str (pa_cons pe_str (pa_cons pe_str (pa_cons pe_str (pa_cons pe_str pa_nil))))))))))) (pe_op op_mod (pe_op op_fdiv (pv 1) pe_int) pe_int) (fun _ _ => rfl)))
      (pss_cons (ps_set (i := 6) sc_law_spoiled.nd rfl (Or.inl rfl) (pe_op op_mod (pv 1) pe_int))
      (pss_cons (ps_if (pt_cmpR op_lt (pv 6) pe_int (nomark _))
      (pss_one (ps_ret (pe_op op_cat (pe_op op_cat (pe_slice (slL K) (pv 0) po_none (po_some (pv 3))) (pe_lst (pa_cons (pv 5) pa_nil))) (pe_slice (slL K) (pv 0) (po_some (pv 3)) po_none))))
      pss_nil)
      (pss_cons (ps_if (pt_cmpR op_lt (pv 6) pe_int (nomark _))
      (pss_one (ps_ret (pe_op op_cat (pe_op op_cat (pe_slice (slL K) (pv 0) po_none (po_some (pv 3))) (pe_lst (pa_cons (pv 5) pa_nil))) (pe_slice (slL K) (pv 0) (po_some (pe_op op_add (pv 3) pe_int)) po_none))))
      pss_nil)
      (pss_cons (ps_if (pt_cmpR op_eq (pv 6) pe_int (nomark _))
      (pss_one (ps_ret (pe_slice (slL K) (pv 0) po_none (po_some (pe_un un_neg pe_int)))))
      pss_nil)
      (pss_one (ps_ret (pe_op op_cat (pv 0) (pe_op op_rep (pe_lst (pa_cons pe_str pa_nil)) (pe_op op_sub (pe_op op_add pe_int (pe_op op_mod (pe_op op_fdiv (pv 1) pe_int) pe_int)) (pe_callB (callLen K) (by rfl) T.z_len PySem.boot_len (pa_cons (pv 0) pa_nil))))))))))))))), ?_⟩
    have kp : (0 : Int) ≤ 20 ∧ (20 : Int) ≤ 1000000 ∧ (10 : Int).natAbs < 2 ^ 64 := by decide
    have k20 : (0 : Int) < 10 ^ (20 : Int).toNat := by decide +kernel
    refine ⟨_, rfl, _, _, rfl, rfl, ⟨by decide, by decide⟩, _, _, rfl, rfl, kp, _, _, rfl, rfl, k20, ?_⟩
    have lp : (0 : Int) < ((xs.length : Nat) : Int) + 1 := by omega
    refine ⟨_, rfl, _, _, rfl, rfl, ⟨by decide, by decide⟩, _, rfl, a, _, rfl, .inl (SqL.of hA), _, _, rfl, rfl, _, _, rfl, rfl, lp, ?_⟩
    -- height
    refine ⟨_, rfl, _, rfl, _, rfl, a, xs, rfl, SqL.of hA, fun p1 g1 => ?_⟩
    refine ⟨.inl ⟨rfl, _, SqL.of upd_same⟩, p1, _, _, rfl, rfl, SqL.of upd_same, rfl, all_flat fun x m => his x (cutV_mem m), fun m _ => ?_⟩
    have z1 := fun (o : HO) => sm_new (o := o) g1
    with_reducible refine cb (cns ?_)
    refine lcLN (K := K) (xs := cutV xs none (some (c / 9 % (((xs.length : Nat) : Int) + 1)))) isI id (fun Q q => ?_) (by have := cutV_length xs none (some (c / 9 % (((xs.length : Nat) : Int) + 1))); omega) (fun x => rfl) (fun x hx H1 s1 Q q => ?_) (fun x hx _ H1 s1 Q q => ⟨_, rfl, q⟩) fun H1 p2 s1 g2 => ?_
    · exact ⟨_, rfl, _, rfl, _, rfl, a, xs, rfl, SqL.of (z1 _ _ _ hA), fun p g => q _ _ (sm_new g) (SqL.of upd_same)⟩
    · have hisx := his x (cutV_mem hx)
      cases x with
      | int z => exact ⟨_, rfl, .int z, .ty "str", .type "int", .type "str", false, rfl, .ty _, .base (.int _), kit_ty (by decide +kernel), _, rfl, q⟩
      | str z => exact ⟨_, rfl, .str z, .ty "str", .type "str", .type "str", true, rfl, .ty _, .base (.str _), kit_ty (by decide +kernel), _, rfl, q⟩
      | non => cases hisx
      | bl _ => cases hisx
      | byt _ => cases hisx
      | flt _ => cases hisx
      | ref _ => cases hisx
      | ty _ => cases hisx
    have s2 : Same H (upd H1 p2 (.lst (((cutV xs none (some (c / 9 % (((xs.length : Nat) : Int) + 1)))).filter isI).map id))) := ((z1 _).trans s1).trans (sm_new g2)
    have hA2 := s2 _ _ hA
    refine ⟨p2, _, rfl, .inl (SqL.of upd_same), _, _, rfl, rfl, ?_⟩
    obtain ⟨far, efar⟩ : ∃ z : Int, z = c / 900 % 10 ^ (20 : Int).toNat := ⟨_, rfl⟩
    obtain ⟨ht', eht⟩ : ∃ z : Int, z = (m : Int) - (((((cutV xs none (some (c / 9 % (((xs.length : Nat) : Int) + 1)))).filter isI).map id).length : Nat) : Int) := ⟨_, rfl⟩
    -- step
    refine ⟨_, rfl, _, rfl, _, rfl, _, rfl, _, _, rfl, rfl, _, rfl, _, rfl, _, _, rfl, rfl, (by show 10 ≤ sizeLine; decide), fun p3 g3 => ?_⟩
    refine ⟨_, rfl, _, _, rfl, rfl, ⟨by decide, by decide⟩, _, _, rfl, rfl, (by decide : (0 : Int) < 10), ?_⟩
    have m0 : 0 ≤ c / 700 % 10 := Int.emod_nonneg _ (by decide)
    have m1 : c / 700 % 10 < 10 := Int.emod_lt_of_pos _ (by decide)
    obtain ⟨l3, el3⟩ : ∃ l3 : List V, l3 = [.str "open", .int (-1), .int ht', .int (ht' + far), .int (-1 - far), .str "lone", .str "Open", .str "0", .str "", .str "close"] := ⟨_, rfl⟩
    have il3 : ∀ x ∈ l3, isIS x = true := by
      rw [el3]
      intro x mx
      simp only [List.mem_cons, List.not_mem_nil, or_false] at mx
      rcases mx with e | e | e | e | e | e | e | e | e | e <;> (rw [e]; rfl)
    have ll3 : l3.length = 10 := by rw [el3]; rfl
    obtain ⟨y, hy⟩ : ∃ y, l3[(c / 700 % 10).toNat]? = some y := ⟨_, List.getElem?_eq_getElem (by omega)⟩
    have hiy := il3 y (List.mem_of_getElem? hy)
    have s3 := s2.trans (sm_new (o := .lst l3) g3)
    have hA3 := s3 _ _ hA
    have hg : ∀ z : Int, z = c / 700 % 10 → atI l3 z = some y := fun z e => at_of (j := (c / 700 % 10).toNat) (by omega) hy
    rw [el3, eht, efar] at s3 hA3 hg
    refine ⟨p3, _, _, y, rfl, rfl, SqL.of upd_same, hg _ rfl, ?_⟩
    refine ⟨_, rfl, _, _, rfl, rfl, (by decide : (0 : Int) < 9), ?_⟩
    have at0 : 0 ≤ c / 9 % (((xs.length : Nat) : Int) + 1) := Int.emod_nonneg _ (by omega)
    -- two slices and a step between them
    have three : ∀ (H3 : Hp) (σ : St) (k lo : Int) (Q' : VK) (te : TE), Same H H3 → H3 a = some (.lst xs) → σ[0]? = some (some (.ref a)) → σ[3]? = some (some (.int k)) → σ[5]? = some (some y) → (∀ H4, Same H H4 → ∀ Q4 : VK, (∀ p, H4 p = none → Q4 (.ref p) (upd H4 p (.lst (cutV xs (some lo) none)))) → te σ H4 Q4) →
        (∀ (H' : Hp) (q : Addr) (xs : List V), Same H H' → H q = none → H' q = some (.lst xs) → (∀ x ∈ xs, isIS x = true) → xs.length ≤ 200 → Q' (.ref q) H') →
        tOp rCat (tOp rCat (tSl (rSlL K) (tVar 0) tNoPart (tPart (tVar 3))) (tLst (tCons (tVar 5) tNil))) te σ H3 Q' := by
      intro H3 σ k lo Q' te s3 hA3 σ0 σ3 σ5 hte hq
      have c1 := cutV_length xs none (some k)
      have c2 := cutV_length xs (some lo) none
      refine ⟨_, σ0, _, σ3, _, rfl, a, xs, rfl, SqL.of hA3, fun p4 g4 => ?_⟩
      have z4 := sm_new (o := .lst (cutV xs none (some k))) g4
      refine ⟨_, σ5, Nat.le_trans (by decide : 1 ≤ 10) (by decide), fun p5 g5 => ?_⟩
      have z5 := sm_new (o := .lst [y]) g5
      refine ⟨p4, p5, _, _, rfl, rfl, z5 _ _ upd_same, upd_same, sz (by simp; omega), fun p6 g6 => ?_⟩
      have z6 := sm_new (o := .lst (cutV xs none (some k) ++ [y])) g6
      have s6 := ((s3.trans z4).trans z5).trans z6
      refine hte _ s6 _ fun p7 g7 => ?_
      have z7 := sm_new (o := .lst (cutV xs (some lo) none)) g7
      refine ⟨p6, p7, _, _, rfl, rfl, z7 _ _ upd_same, upd_same, sz (by simp; omega), fun p8 g8 => ?_⟩
      refine hq _ p8 _ ((s6.trans z7).trans (sm_new g8)) ((s6.trans z7).free g8) upd_same (fun x mx => ?_) (by simp; omega)
      rcases List.mem_append.mp mx with mx | mx
      · rcases List.mem_append.mp mx with mx | mx
        · exact his x (cutV_mem mx)
        · rw [List.mem_singleton.mp mx]
          exact hiy
      · exact his x (cutV_mem mx)
    refine ⟨_, rfl, _, _, rfl, rfl, _, rfl, ite2 (fun _ => ?_) (fun _ => ?_)⟩
    · exact three _ _ _ _ Q _ s3 hA3 rfl rfl rfl (fun H4 s4 Q4 q4 => ⟨_, rfl, _, rfl, _, rfl, a, xs, rfl, SqL.of (s4 _ _ hA), q4⟩) q
    refine ⟨_, rfl, _, _, rfl, rfl, _, rfl, ite2 (fun _ => ?_) (fun _ => ?_)⟩
    · exact three _ _ _ _ Q _ s3 hA3 rfl rfl rfl (fun H4 s4 Q4 q4 => ⟨_, rfl, _, rfl, _, _, rfl, rfl, _, rfl, a, xs, rfl, SqL.of (s4 _ _ hA), q4⟩) q
    refine ⟨_, rfl, rfl, _, rfl, ite2 (fun _ => ?_) (fun _ => ?_)⟩
    · refine ⟨_, rfl, _, rfl, _, rfl, a, xs, rfl, SqL.of hA3, fun p4 g4 => ?_⟩
      have c1 := cutV_length xs none (some (-1))
      exact q _ p4 _ (s3.trans (sm_new g4)) (s3.free g4) upd_same (fun x mx => his x (cutV_mem mx)) (Nat.le_trans c1 (by omega))
    · refine ⟨_, rfl, by show 1 ≤ sizeLine; decide, fun p4 g4 => ?_⟩
      have z4 := sm_new (o := .lst [.str "lone"]) g4
      have b0 : 0 ≤ c / 9 % 5 := Int.emod_nonneg _ (by decide)
      have b1 : c / 9 % 5 < 5 := Int.emod_lt_of_pos _ (by decide)
      refine ⟨_, rfl, _, _, rfl, rfl, ⟨by decide, by decide⟩, _, _, rfl, rfl, (by decide : (0 : Int) < 5), _, _, rfl, rfl, _, rfl, a, xs, rfl, .inl (SqL.of (z4 _ _ hA3)), _, _, rfl, rfl, ?_⟩
      refine ⟨p4, _, _, rfl, rfl, upd_same, by omega, by omega, sz (by simp; omega), fun p5 g5 => ?_⟩
      have hrl : (List.replicate (58 + c / 9 % 5 - ((xs.length : Nat) : Int)).toNat ([.str "lone"] : List V)).flatten.length ≤ 62 := by
        simp
        omega
      have z5 := sm_new (o := .lst (List.replicate (58 + c / 9 % 5 - ((xs.length : Nat) : Int)).toNat ([.str "lone"] : List V)).flatten) g5
      refine ⟨a, p5, _, _, rfl, rfl, z5 _ _ (z4 _ _ hA3), upd_same, sz (by omega), fun p6 g6 => ?_⟩
      refine q _ p6 _ (((s3.trans z4).trans z5).trans (sm_new g6)) (((s3.trans z4).trans z5).free g6) upd_same (fun x mx => ?_) (by rw [List.length_append]; omega)
      rcases List.mem_append.mp mx with mx | mx
      · exact his x mx
      · obtain ⟨l, hl1, hl2⟩ := List.mem_flatten.mp mx
        rw [(List.mem_replicate.mp hl1).2] at hl2
        rw [List.mem_singleton.mp hl2]
        rfl
end
end Pg

namespace Pg
open PySem L2
section
variable {P : Program} {w : World} {K : PySem.W.Frag} {mg : Str → Option Value} {base : Heap} {ca : CA}
abbrev s_law_good : Stmt := topS 20
theorem sc_law_good : FnScope ["walk", "height", "step"] ["walk"] (defScope s_law_good) := ⟨rfl, rfl, rfl, by decide +kernel, rfl, by decide +kernel, by decide +kernel⟩
/-- whether a list of whole numbers and texts is a walk -/
def sp_law_good (K : PySem.W.Frag) : Sp := fun vs H Q _ => ∃ (a : Addr) (xs : List V), vs = [.ref a] ∧ SqL K H a xs ∧ (∀ x ∈ xs, isIS x = true) ∧ xs.length ≤ 1000 ∧
  (∀ ws, WalkOf xs ws → Q (.bl true) H) ∧ ((¬ ∃ ws, WalkOf xs ws) → Q (.bl false) H)
theorem ok_law_good (T : Txt K mg ca) (D : Def K mg "_law_good" ["walk"] s_law_good) : Known P w K mg base CX0 1 "_law_good" ["walk"] (sp_law_good K) := by
  refine D.known fun f fd F => F.ok sc_law_good (fun vs H Q E h => ?_) (fun cdv A outer s H vs Q E hr h => ?_)
  · obtain ⟨_, _, rfl, _⟩ := h
    rfl
  · obtain ⟨a, xs, rfl, hS, his, hlen, q, ke⟩ := h
    refine ⟨_, (pss_cons (ps_if (pt_cmpR op_gt (pe_callB (callLen K) (by rfl) T.z_len PySem.boot_len (pa_cons (pv 0) pa_nil)) pe_int (nomark _))
      (pss_one (ps_ret pe_bl))
      pss_nil)
      (pss_cons (ps_set (i := 1) sc_law_good.nd rfl (Or.inl rfl) pe_int)
      (pss_cons (ps_for PassesOwn.never rfl (piL K (pv 0)) (pg_name (i := 2) sc_law_good.nd rfl (Or.inl rfl))
      (pss_one (ps_if (pt_cmpR op_eq (pv 2) pe_str (nomark _))
      (pss_one (ps_set (i := 1) sc_law_good.nd rfl (Or.inl rfl) (pe_op op_add (pv 1) pe_int)))
      (pss_one (ps_if (pt_val (pe_callB (callIsi K) (by rfl) T.z_isinstance (by decide +kernel) (pa_cons (pv 2) (pa_cons (pe_bltn (v := .ty "str") (by rfl) T.z_str (by decide +kernel) rfl) pa_nil))))
      (pss_one (ps_if (pt_cmpR op_ne (pv 2) pe_str (nomark _))
      (pss_one (ps_ret pe_bl))
      pss_nil))
      (pss_one (ps_if (PW.pt (pw_or (pt_cmpR op_lt (pv 2) pe_int (nomark _)) (pw_or1 (pt_cmpR op_ge (pv 2) (pv 1) (nomark _)))))
      (pss_one (ps_ret pe_bl))
      (pss_one (ps_set (i := 1) sc_law_good.nd rfl (Or.inl rfl) (pe_op op_sub (pv 1) pe_int))))))))))
      (pss_one (ps_ret (pe_cmpR op_eq (pv 1) pe_int (nomark _))))))), ?_⟩
    refine ⟨_, rfl, a, _, rfl, .inl hS, _, _, rfl, rfl, _, rfl, ?_⟩
    by_cases c60 : 60 < xs.length
    · rw [decide_eq_true (by omega)]
      exact iteT (ke (no_walk_long c60))
    rw [decide_eq_false (by omega)]
    refine iteF ?_
    refine ⟨_, rfl, a, rfl, ⟨_, hS⟩, ?_⟩
    refine for_list (K := K) (a := a) (xs := xs) (fun i σ H' => ∃ (ws : List Stp) (h : Nat) (x2 : Option V), σ = [some (.ref a), some (.int (h : Int)), x2] ∧ xs.take i = ws.map Stp.v ∧ run 0 ws = some h ∧ H' = H)
      ⟨[], 0, none, rfl, rfl, rfl, rfl⟩ (fun i σ H' _ ⟨_, _, _, _, _, _, e⟩ => by rw [e]; exact hS) ?_ ?_
    · rintro i x σ H' hx ⟨ws, h, x2, rfl, ht, hrun, rfl⟩
      have hisx := his _ (List.mem_of_getElem? hx)
      have nx : ∀ st : Stp, x = st.v → xs.take (i + 1) = (ws ++ [st]).map Stp.v := fun st e => by
        rw [take_succ hx, ht, e, List.map_append]
        rfl
      cases x with
      | str y =>
        refine ⟨_, rfl, rfl, _, rfl, ?_⟩
        rw [dstr]
        by_cases co : y = "open"
        · rw [decide_eq_true co]
          subst co
          refine iteT ⟨_, rfl, _, _, rfl, rfl, ?_⟩
          exact ⟨ws ++ [.opn], h + 1, _, rfl, nx .opn rfl, run_opn hrun, rfl⟩
        · rw [decide_eq_false co]
          refine iteF ⟨_, rfl, .str y, .ty "str", .type "str", .type "str", true, rfl, .ty _, .base (.str _), kit_ty (by decide +kernel), _, rfl, iteT ?_⟩
          refine ⟨_, rfl, rfl, _, rfl, ?_⟩
          rw [dstr]
          by_cases cl : y = "lone"
          · rw [decide_eq_true cl]
            subst cl
            exact iteF ⟨ws ++ [.lone], h, _, rfl, nx .lone rfl, run_lone hrun, rfl⟩
          · rw [decide_eq_false cl]
            exact iteT (ke (no_walk_at ht hrun hx (str_bad co cl)))
      | int z =>
        refine ⟨_, rfl, rfl, _, rfl, iteF ?_⟩
        refine ⟨_, rfl, .int z, .ty "str", .type "int", .type "str", false, rfl, .ty _, .base (.int _), kit_ty (by decide +kernel), _, rfl, iteF ?_⟩
        refine ⟨_, rfl, _, _, rfl, rfl, _, rfl, ?_⟩
        by_cases c0 : z < 0
        · rw [decide_eq_true c0]
          exact iteT (iteT (ke (no_walk_at ht hrun hx (num_bad (.inl c0)))))
        rw [decide_eq_false c0]
        refine iteF ⟨_, rfl, _, rfl, _, _, rfl, rfl, _, rfl, ?_⟩
        by_cases c1 : (h : Int) ≤ z
        · rw [decide_eq_true c1]
          exact iteT (ke (no_walk_at ht hrun hx (num_bad (.inr c1))))
        rw [decide_eq_false c1]
        refine iteF ⟨_, rfl, _, _, rfl, rfl, ?_⟩
        obtain ⟨k, rfl⟩ : ∃ k : Nat, z = (k : Int) := ⟨z.toNat, by omega⟩
        have e : (h : Int) - 1 = ((h - 1 : Nat) : Int) := by omega
        refine ⟨ws ++ [.num k], h - 1, some (.int (k : Int)), ?_, nx (.num k) rfl, run_num hrun (by omega), rfl⟩
        rw [← e]
        rfl
      | non => cases hisx
      | bl _ => cases hisx
      | byt _ => cases hisx
      | flt _ => cases hisx
      | ref _ => cases hisx
      | ty _ => cases hisx
    · rintro σ H' ⟨ws, h, x2, rfl, ht, hrun, rfl⟩
      rw [List.take_length] at ht
      refine ⟨_, rfl, rfl, ?_⟩
      rw [dint]
      by_cases c : (h : Int) = 0
      · rw [decide_eq_true c]
        have h0 : h = 0 := by omega
        subst h0
        refine q ws ⟨ht, hrun, ?_⟩
        have e := congrArg List.length ht
        rw [List.length_map] at e
        omega
      · rw [decide_eq_false c]
        exact ke (no_walk_end ht hrun (by omega))
end
end Pg

namespace Pg
open PySem L2
section
variable {P : Program} {w : World} {K : PySem.W.Frag} {mg : Str → Option Value} {base : Heap} {ca : CA}
abbrev s_law_cell_at : Stmt := topS 11
theorem sc_law_cell_at : FnScope ["script", "k"] ["script", "k"] (defScope s_law_cell_at) := ⟨rfl, rfl, rfl, by decide +kernel, rfl, by decide +kernel, by decide +kernel⟩
def cellAt (ns : List Int) (k : Int) : Int := ns.getD k.toNat 0
def sp_law_cell_at (K : PySem.W.Frag) : Sp := fun vs H Q _ => ∃ (a : Addr) (ns : List Int) (k : Int), vs = [.ref a, .int k] ∧ SqL K H a (ns.map V.int) ∧ 0 ≤ k ∧ Q (.int (cellAt ns k)) H
theorem ok_law_cell_at (T : Txt K mg ca) (D : Def K mg "_law_cell_at" ["script", "k"] s_law_cell_at) : Known P w K mg base CX0 1 "_law_cell_at" ["script", "k"] (sp_law_cell_at K) := by
  refine D.known fun f fd F => F.ok sc_law_cell_at (fun vs H Q E h => ?_) (fun cdv A outer s H vs Q E hr h => ?_)
  · obtain ⟨_, _, _, rfl, _⟩ := h
    rfl
  · obtain ⟨a, ns, k, rfl, hS, hk, q⟩ := h
    refine ⟨_, (pss_cons (ps_if (pt_cmpR op_lt (pv 1) (pe_callB (callLen K) (by rfl) T.z_len PySem.boot_len (pa_cons (pv 0) pa_nil)) (nomark _))
      (pss_one (ps_ret (pe_ix (ixL K) (pv 0) (pv 1) (fun _ _ => rfl))))
      pss_nil)
      (pss_one (ps_ret pe_int))), ?_⟩
    refine ⟨_, rfl, _, rfl, a, _, rfl, .inl hS, _, _, rfl, rfl, _, rfl, ?_⟩
    refine ite2 (fun e => ?_) (fun e => ?_)
    · have e1 := of_decide_eq_true e
      rw [List.length_map] at e1
      have g : (ns.map V.int)[k.toNat]? = some (.int (cellAt ns k)) := by
        have hl : k.toNat < ns.length := by omega
        rw [List.getElem?_map, List.getElem?_eq_getElem hl]
        show some (V.int ns[k.toNat]) = _
        rw [cellAt, List.getD_eq_getElem?_getD, List.getElem?_eq_getElem hl]
        rfl
      exact ⟨_, rfl, _, rfl, a, _, k, _, rfl, rfl, hS, at_of (j := k.toNat) (by omega) g, q⟩
    · have e1 : ¬ k < (ns.map V.int).length := fun z => e (decide_eq_true z)
      rw [List.length_map] at e1
      have g : cellAt ns k = 0 := by
        rw [cellAt, List.getD_eq_getElem?_getD, List.getElem?_eq_none (by omega)]
        rfl
      rw [g] at q
      exact q
end
end Pg

namespace Pg
open PySem L2
section
variable {P : Program} {w : World} {K : PySem.W.Frag} {mg : Str → Option Value} {base : Heap} {ca : CA}
abbrev s_law_choice : Stmt := topS 13
theorem sc_law_choice : FnScope ["state", "many", "found", "mixed"] ["state", "many"] (defScope s_law_choice) := ⟨rfl, rfl, rfl, by decide +kernel, rfl, by decide +kernel, by decide +kernel⟩
/-- some number below many, whatever the state; the state is changed -/
def sp_law_choice (K : PySem.W.Frag) : Sp := fun vs H Q _ => ∃ (a : Addr) (c m : Int) (b : Bool), vs = [.ref a, .int m] ∧ H a = some (.lst [.int c, .bl b]) ∧ 0 < m ∧ m < 1000 ∧
  ∀ c' r : Int, 0 ≤ r → r < m → Q (.int r) (upd H a (.lst [.int c', .bl b]))
theorem ok_law_choice (T : Txt K mg ca) (D : Def K mg "_law_choice" ["state", "many"] s_law_choice) : Known P w K mg base CX0 1 "_law_choice" ["state", "many"] (sp_law_choice K) := by
  refine D.known fun f fd F => F.ok sc_law_choice (fun vs H Q E h => ?_) (fun cdv A outer s H vs Q E hr h => ?_)
  · obtain ⟨_, _, _, _, rfl, _⟩ := h
    rfl
  · obtain ⟨a, c, m, b, rfl, hS, h0, h1, q⟩ := h
    have g0 : atI [V.int c, V.bl b] 0 = some (.int c) := atI_nat (j := 0) rfl
    have g1 : atI [V.int c, V.bl b] 1 = some (.bl b) := atI_nat (j := 1) rfl
    have hL : SqL K H a [V.int c, V.bl b] := SqL.of hS
    refine ⟨_, (pss_cons (ps_if (pt_val (pe_ix (ixL K) (pv 0) pe_int (fun _ _ => rfl)))
      (pss_cons (ps_set (i := 2) sc_law_choice.nd rfl (Or.inl rfl) (pe_op op_mod (pe_ix (ixL K) (pv 0) pe_int (fun _ _ => rfl)) (pv 1)))
      (pss_cons (ps_asg (pe_op op_fdiv (pe_ix (ixL K) (pv 0) pe_int (fun _ _ => rfl)) (pv 1)) (pg_sub (pv 0) pe_int set_list))
      (pss_one (ps_ret (pv 2)))))
      pss_nil)
      (pss_cons (ps_asg (pe_op op_mod (pe_op op_add (pe_op op_mul (pe_ix (ixL K) (pv 0) pe_int (fun _ _ => rfl)) pe_int) pe_int) pe_int) (pg_sub (pv 0) pe_int set_list))
      (pss_cons (ps_set (i := 3) sc_law_choice.nd rfl (Or.inl rfl) (pe_op op_mod (pe_op op_add (pe_op op_add (pe_op op_mul (pe_ix (ixL K) (pv 0) pe_int (fun _ _ => rfl)) (pe_ix (ixL K) (pv 0) pe_int (fun _ _ => rfl))) (pe_op op_mul pe_int (pe_ix (ixL K) (pv 0) pe_int (fun _ _ => rfl)))) pe_int) pe_int))
      (pss_one (ps_ret (pe_op op_mod (pe_op op_fdiv (pv 3) pe_int) (pv 1))))))), ?_⟩
    refine ⟨_, rfl, a, _, 1, _, rfl, rfl, hL, g1, _, rfl, ?_⟩
    cases b with
    | true =>
      refine iteT ?_
      refine ⟨_, rfl, a, _, 0, _, rfl, rfl, hL, g0, _, rfl, _, _, rfl, rfl, h0, ?_⟩
      refine ⟨_, rfl, a, _, 0, _, rfl, rfl, hL, g0, _, rfl, _, _, rfl, rfl, ⟨h0, by omega⟩, ?_⟩
      refine ⟨_, rfl, a, _, 0, 0, rfl, rfl, hS, rfl, ?_⟩
      exact ⟨_, rfl, q _ _ (Int.emod_nonneg _ (by omega)) (Int.emod_lt_of_pos _ h0)⟩
    | false =>
      refine iteF ?_
      have k1 : (-(2 ^ 64) : Int) < 48271 ∧ (48271 : Int) < 2 ^ 64 := by decide
      refine ⟨_, rfl, a, _, 0, _, rfl, rfl, hL, g0, _, _, rfl, rfl, .inr k1, _, _, rfl, rfl, _, _, rfl, rfl, (by decide : (0 : Int) < 2147483647), ?_⟩
      refine ⟨_, rfl, a, _, 0, 0, rfl, rfl, hS, rfl, ?_⟩
      have z0 : 0 ≤ (c * 48271 + 29) % 2147483647 := Int.emod_nonneg _ (by decide)
      have z1 : (c * 48271 + 29) % 2147483647 < 2147483647 := Int.emod_lt_of_pos _ (by decide)
      have hL' : SqL K (upd H a (.lst [V.int ((c * 48271 + 29) % 2147483647), V.bl false])) a [V.int ((c * 48271 + 29) % 2147483647), V.bl false] := SqL.of upd_same
      have g0' : atI [V.int ((c * 48271 + 29) % 2147483647), V.bl false] 0 = some (.int ((c * 48271 + 29) % 2147483647)) := atI_nat (j := 0) rfl
      have k2 : (-(2 ^ 64) : Int) < (c * 48271 + 29) % 2147483647 ∧ (c * 48271 + 29) % 2147483647 < 2 ^ 64 := ⟨by omega, by omega⟩
      refine ⟨_, rfl, a, _, 0, _, rfl, rfl, hL', g0', _, rfl, a, _, 0, _, rfl, rfl, hL', g0', _, _, rfl, rfl, .inl k2, ?_⟩
      refine ⟨_, rfl, a, _, 0, _, rfl, rfl, hL', g0', _, _, rfl, rfl, .inr k2, _, _, rfl, rfl, _, _, rfl, rfl, _, _, rfl, rfl, (by decide : (0 : Int) < 2147483629), ?_⟩
      refine ⟨_, rfl, _, _, rfl, rfl, ⟨by decide, by decide⟩, _, rfl, _, _, rfl, rfl, h0, ?_⟩
      exact q _ _ (Int.emod_nonneg _ (by omega)) (Int.emod_lt_of_pos _ h0)
end
end Pg

namespace Pg
open PySem L2
section
variable {P : Program} {w : World} {K : PySem.W.Frag} {mg : Str → Option Value} {base : Heap} {ca : CA}
abbrev s_law_walk : Stmt := topS 14
theorem sc_law_walk : FnScope ["cell", "points", "plain", "state", "walk", "height", "left", "some", "step"] ["cell", "points", "plain"] (defScope s_law_walk) := ⟨rfl, rfl, rfl, by decide +kernel, rfl, by decide +kernel, by decide +kernel⟩
/-- some walk of so many points -/
def sp_law_walk (K : PySem.W.Frag) : Sp := fun vs H Q _ => ∃ (c n : Int) (b : Bool), vs = [.int c, .int n, .bl b] ∧ 0 ≤ n ∧ n ≤ 60 ∧
  ∀ (ws : List Stp) (H' : Hp) (q : Addr), run 0 ws = some 0 → (ws.length : Int) = n → Same H H' → H q = none → H' q = some (.lst (ws.map Stp.v)) → Q (.ref q) H'
theorem ok_law_walk (T : Txt K mg ca) (D : Def K mg "_law_walk" ["cell", "points", "plain"] s_law_walk) (G_law_choice : Known P w K mg base CX0 1 "_law_choice" ["state", "many"] (sp_law_choice K)) : Known P w K mg base CX0 2 "_law_walk" ["cell", "points", "plain"] (sp_law_walk K) := by
  refine D.known fun f fd F => F.ok sc_law_walk (fun vs H Q E h => ?_) (fun cdv A outer s H vs Q E hr h => ?_)
  · obtain ⟨_, _, _, rfl, _⟩ := h
    rfl
  · obtain ⟨c, n, b, rfl, h0, h1, q⟩ := h
    refine ⟨_, (pss_cons (ps_set (i := 3) sc_law_walk.nd rfl (Or.inl rfl) (pe_lst (pa_cons (pv 0) (pa_cons (pv 2) pa_nil))))
      (Evl.pss_cut (ps_if (pt_not (pt_val (pv 2)))
      (pss_one (ps_asg (pe_op op_mod (pv 0) pe_int) (pg_sub (pv 3) pe_int set_list)))
      pss_nil)
      (pss_cons (ps_set (i := 4) sc_law_walk.nd rfl (Or.inl rfl) (pe_lst pa_nil))
      (pss_cons (ps_set (i := 5) sc_law_walk.nd rfl (Or.inl rfl) pe_int)
      (pss_cons (ps_for PassesOwn.never rfl (pi_range3 (by rfl) T.z_range (pa_cons (pe_op op_sub (pv 1) pe_int) (pa_cons (pe_un un_neg pe_int) (pa_cons (pe_un un_neg pe_int) pa_nil)))) (pg_name (i := 6) sc_law_walk.nd rfl (Or.inl rfl))
      (pss_cons (ps_set (i := 7) sc_law_walk.nd rfl (Or.inl rfl) (pe_listRg rfl (by rfl) T.z_list (prg_1 (by rfl) T.z_range (pv 5))))
      (Evl.pss_cut (ps_if (pt_cmpR op_le (pv 5) (pv 6) (nomark _))
      (pss_one (ps_expr (peM K PySem.F.plainAttrs_list PySem.F.slot_list_append PySem.F.type_list_append mt_append (pv 7) (pa_cons pe_str pa_nil))))
      pss_nil)
      (Evl.pss_cut (ps_if (pt_cmpR op_lt (pv 5) (pv 6) (nomark _))
      (pss_one (ps_expr (peM K PySem.F.plainAttrs_list PySem.F.slot_list_append PySem.F.type_list_append mt_append (pv 7) (pa_cons pe_str pa_nil))))
      pss_nil)
      (pss_cons (ps_set (i := 8) sc_law_walk.nd rfl (Or.inl rfl) (pe_ix (ixL K) (pv 7) (pe_kc G_law_choice (hr.mono (by decide)) (by rfl) pass0 (pa_cons (pv 3) (pa_cons (pe_callB (callLen K) (by rfl) T.z_len PySem.boot_len (pa_cons (pv 7) pa_nil)) pa_nil))) (fun _ _ => rfl)))
      (pss_cons (ps_expr (peM K PySem.F.plainAttrs_list PySem.F.slot_list_append PySem.F.type_list_append mt_append (pv 4) (pa_cons (pv 8) pa_nil)))
      (pss_one (ps_if (pt_cmpR op_eq (pv 8) pe_str (nomark _))
      (pss_one (ps_set (i := 5) sc_law_walk.nd rfl (Or.inl rfl) (pe_op op_add (pv 5) pe_int)))
      (pss_one (ps_if (pt_cmpR op_ne (pv 8) pe_str (nomark _))
      (pss_one (ps_set (i := 5) sc_law_walk.nd rfl (Or.inl rfl) (pe_op op_sub (pv 5) pe_int)))
      pss_nil))))))))))
      (pss_one (ps_ret (pv 4)))))))), ?_⟩
    -- state = [cell, plain]
    refine ⟨_, rfl, _, rfl, (by show 2 ≤ sizeLine; decide), fun a ha => ?_⟩
    -- if not plain
    refine ⟨fun σ' H' => ∃ c', σ' = [some (.int c), some (.int n), some (.bl b), some (.ref a), none, none, none, none, none] ∧ H' = upd H a (.lst [.int c', .bl b]), ?_, ?_⟩
    · refine ⟨_, rfl, _, rfl, ?_⟩
      cases b with
      | true => exact iteF ⟨c, rfl, rfl⟩
      | false =>
        refine iteT ?_
        refine ⟨_, rfl, _, _, rfl, rfl, (by decide : (0 : Int) < 2147483647), _, rfl, a, _, 0, 0, rfl, rfl, upd_same, rfl, ?_⟩
        exact ⟨c % 2147483647, rfl, upd_upd⟩
    rintro σ' H' ⟨c1, rfl, rfl⟩
    -- walk = []; height = 0
    refine ⟨Nat.zero_le _, fun w hw => ?_⟩
    have naw : a ≠ w := ne_of_none upd_same hw
    have hwH : H w = none := by
      rw [upd_ne (Ne.symm naw)] at hw
      exact hw
    -- for left in range(points - 1, -1, -1)
    refine ⟨_, rfl, _, _, rfl, rfl, _, rfl, _, rfl, n - 1, -1, -1, (n - 1 - -1).toNat, rfl, RgC.neg (by omega) (by omega) (by decide) (by decide), ?_⟩
    refine for_rangeC (fun i σ H' => ∃ (ws : List Stp) (h : Nat) (c' : Int) (x6 x7 x8 : Option V), σ = [some (.int c), some (.int n), some (.bl b), some (.ref a), some (.ref w), some (.int (h : Int)), x6, x7, x8] ∧ run 0 ws = some h ∧ (h : Int) + i ≤ n ∧ ws.length = i ∧
      Same H H' ∧ H' a = some (.lst [.int c', .bl b]) ∧ H' w = some (.lst (ws.map Stp.v))) ?_ ?_ ?_
    · refine ⟨[], 0, c1, none, none, none, rfl, rfl, by simpa using h0, rfl, ?_, ?_, upd_same⟩
      · exact (sm_new ha).trans (sm_new hw)
      · rw [upd_ne naw, upd_same]
    · rintro i σ H' hi ⟨ws, h, c', x6, x7, x8, rfl, hrun, hle, hlen, hs, hA, hW⟩
      have hi' : (i : Int) < n := by omega
      -- some = list(range(height))
      refine ⟨_, rfl, _, rfl, ⟨by decide, by decide, by omega, by omega, by omega⟩, fun o ho => ?_⟩
      have nao : a ≠ o := ne_of_none hA ho
      have nwo : w ≠ o := ne_of_none hW ho
      let opts : List Stp := (List.range h).map Stp.num ++ ((if (h : Int) ≤ n - 1 + i * -1 then [.lone] else []) ++ (if (h : Int) < n - 1 + i * -1 then [.opn] else []))
      refine ⟨fun σ' H2 => σ' = [some (.int c), some (.int n), some (.bl b), some (.ref a), some (.ref w), some (.int (h : Int)), some (.int (n - 1 + i * -1)), some (.ref o), x8] ∧
        H2 = upd H' o (.lst (((List.range h).map Stp.num ++ (if (h : Int) ≤ n - 1 + i * -1 then [Stp.lone] else [])).map Stp.v)), ?_, ?_⟩
      · have e0 : rgV 0 (h : Int) = ((List.range h).map Stp.num).map Stp.v := by
          unfold rgV
          rw [List.map_map]
          have : ((h : Int) - 0).toNat = h := by omega
          rw [this]
          refine List.map_congr_left fun j _ => ?_
          show V.int (0 + (j : Int)) = V.int (j : Int)
          rw [Int.zero_add]
        refine ⟨_, rfl, _, rfl, _, _, rfl, rfl, _, rfl, ite2 (fun e => ?_) (fun e => ?_)⟩
        · have e1 := of_decide_eq_true e
          refine ⟨_, rfl, .inl ⟨rfl, _, SqL.of upd_same⟩, o, _, _, rfl, rfl, upd_same, szl (by rw [rgV_length]; omega), rfl, ?_⟩
          rw [upd_upd, if_pos e1, List.map_append, ← e0]
          rfl
        · have e1 : ¬ (h : Int) ≤ n - 1 + i * -1 := fun z => e (decide_eq_true z)
          refine ⟨rfl, ?_⟩
          rw [if_neg e1, List.append_nil, ← e0]
      rintro σ' H2 ⟨rfl, rfl⟩
      refine ⟨fun σ' H2 => σ' = [some (.int c), some (.int n), some (.bl b), some (.ref a), some (.ref w), some (.int (h : Int)), some (.int (n - 1 + i * -1)), some (.ref o), x8] ∧
        H2 = upd H' o (.lst (opts.map Stp.v)), ?_, ?_⟩
      · refine ⟨_, rfl, _, rfl, _, _, rfl, rfl, _, rfl, ite2 (fun e => ?_) (fun e => ?_)⟩
        · have e1 := of_decide_eq_true e
          refine ⟨_, rfl, .inl ⟨rfl, _, SqL.of upd_same⟩, o, _, _, rfl, rfl, upd_same, szl ?_, rfl, ?_⟩
          · rw [List.length_map, List.length_append, List.length_map, List.length_range]
            split <;> simp <;> omega
          · rw [upd_upd]
            show _ = upd H' o (.lst (List.map Stp.v ((List.range h).map Stp.num ++ (_ ++ _))))
            rw [if_pos e1, ← List.append_assoc, List.map_append (l₂ := [Stp.opn])]
            rfl
        · have e1 : ¬ (h : Int) < n - 1 + i * -1 := fun z => e (decide_eq_true z)
          refine ⟨rfl, ?_⟩
          show _ = upd H' o (.lst (List.map Stp.v ((List.range h).map Stp.num ++ (_ ++ _))))
          rw [if_neg e1, List.append_nil]
      rintro σ' H2 ⟨rfl, rfl⟩
      have hno : 0 < opts.length := by
        show 0 < ((List.range h).map Stp.num ++ (_ ++ _)).length
        by_cases z : h = 0
        · rw [if_pos (by omega)]
          simp
          omega
        · rw [List.length_append, List.length_map, List.length_range]
          omega
      have hno2 : opts.length ≤ 62 := by
        show ((List.range h).map Stp.num ++ (_ ++ _)).length ≤ 62
        rw [List.length_append, List.length_map, List.length_range, List.length_append]
        split <;> split <;> simp <;> omega
      -- step = some[_law_choice(state, len(some))]
      refine ⟨_, rfl, _, rfl, _, rfl, o, _, rfl, .inl (SqL.of upd_same), a, c', _, b, rfl, by rw [upd_ne nao]; exact hA, ?_, ?_, fun c2 r hr0 hr1 => ?_⟩
      · rw [List.length_map]; omega
      · rw [List.length_map]; omega
      rw [List.length_map] at hr1
      have hr2 : r.toNat < opts.length := by omega
      have hat : (opts.map Stp.v)[r.toNat]? = some (opts[r.toNat]).v := by rw [List.getElem?_map, List.getElem?_eq_getElem hr2]; rfl
      have ho2 : (upd (upd H' o (.lst (opts.map Stp.v))) a (.lst [.int c2, .bl b])) o = some (.lst (opts.map Stp.v)) := by rw [upd_ne (Ne.symm nao), upd_same]
      refine ⟨o, _, r, _, rfl, rfl, SqL.of ho2, at_of (j := r.toNat) (by omega) hat, ?_⟩
      have hW2 : (upd (upd H' o (.lst (opts.map Stp.v))) a (.lst [.int c2, .bl b])) w = some (.lst (ws.map Stp.v)) := by rw [upd_ne (Ne.symm naw), upd_ne nwo]; exact hW
      -- walk.append(step)
      refine ⟨_, rfl, .inl ⟨rfl, _, SqL.of hW2⟩, _, rfl, w, _, _, rfl, rfl, hW2, szl (by rw [List.length_map, hlen]; omega), ?_⟩
      have hmem : opts[r.toNat] ∈ opts := List.getElem_mem hr2
      have fin : ∀ (h2 : Nat) x6 x7 x8, run 0 (ws ++ [opts[r.toNat]]) = some h2 → (h2 : Int) + ((i + 1 : Nat) : Int) ≤ n → ∃ (ws2 : List Stp) (h : Nat) (c' : Int) (y6 y7 y8 : Option V), [some (V.int c), some (.int n), some (.bl b), some (.ref a), some (.ref w), some (.int (h2 : Int)), x6, x7, x8] =
          [some (V.int c), some (.int n), some (.bl b), some (.ref a), some (.ref w), some (.int (h : Int)), y6, y7, y8] ∧ run 0 ws2 = some h ∧ (h : Int) + ((i + 1 : Nat) : Int) ≤ n ∧ ws2.length = i + 1 ∧
          Same H (upd (upd (upd H' o (.lst (opts.map Stp.v))) a (.lst [.int c2, .bl b])) w (.lst (ws.map Stp.v ++ [(opts[r.toNat]).v]))) ∧
          (upd (upd (upd H' o (.lst (opts.map Stp.v))) a (.lst [.int c2, .bl b])) w (.lst (ws.map Stp.v ++ [(opts[r.toNat]).v]))) a = some (.lst [.int c', .bl b]) ∧
          (upd (upd (upd H' o (.lst (opts.map Stp.v))) a (.lst [.int c2, .bl b])) w (.lst (ws.map Stp.v ++ [(opts[r.toNat]).v]))) w = some (.lst (ws2.map Stp.v)) := fun h2 x6 x7 x8 r1 r2 =>
        ⟨ws ++ [opts[r.toNat]], h2, c2, x6, x7, x8, rfl, r1, r2, by rw [List.length_append, hlen]; rfl, sm_mut (sm_mut (hs.trans (sm_new ho)) ha) hwH, by rw [upd_ne naw, upd_same], by rw [upd_same, List.map_append]; rfl⟩
      revert fin
      generalize opts[r.toNat] = st at hmem ⊢
      intro fin
      cases st with
      | lone =>
        refine ⟨_, rfl, rfl, _, rfl, iteF ?_⟩
        refine ⟨_, rfl, rfl, _, rfl, iteF ?_⟩
        have hc : (h : Int) ≤ n - 1 + i * -1 := by
          rcases List.mem_append.mp hmem with m | m
          · obtain ⟨_, _, z⟩ := List.mem_map.mp m
            cases z
          · by_cases z : (h : Int) ≤ n - 1 + i * -1
            · exact z
            · rw [if_neg z, if_neg (by omega)] at m
              cases m
        exact fin h _ _ _ (run_lone hrun) (by omega)
      | opn =>
        refine ⟨_, rfl, rfl, _, rfl, iteT ?_⟩
        have hc : (h : Int) < n - 1 + i * -1 := by
          rcases List.mem_append.mp hmem with m | m
          · obtain ⟨_, _, z⟩ := List.mem_map.mp m
            cases z
          · by_cases z : (h : Int) < n - 1 + i * -1
            · exact z
            · rw [if_neg z] at m
              split at m <;> simp at m
        refine ⟨_, rfl, _, _, rfl, rfl, ?_⟩
        exact fin (h + 1) _ _ _ (run_opn hrun) (by omega)
      | num k =>
        refine ⟨_, rfl, rfl, _, rfl, iteF ?_⟩
        refine ⟨_, rfl, rfl, _, rfl, iteT ?_⟩
        have hk : k < h := by
          rcases List.mem_append.mp hmem with m | m
          · obtain ⟨j, hj, z⟩ := List.mem_map.mp m
            cases z
            exact List.mem_range.mp hj
          · exfalso
            split at m <;> split at m <;> simp at m
        refine ⟨_, rfl, _, _, rfl, rfl, ?_⟩
        have e : (h : Int) - 1 = ((h - 1 : Nat) : Int) := by omega
        have g := fin (h - 1) (some (.int (n - 1 + i * -1))) (some (.ref o)) (some (.int (k : Int))) (run_num hrun hk) (by omega)
        rw [← e] at g
        exact g
    · rintro σ H' ⟨ws, h, c', x6, x7, x8, rfl, hrun, hle, hlen, hs, hA, hW⟩
      have hz : h = 0 := by omega
      subst hz
      exact ⟨_, rfl, q ws H' w hrun (by omega) hs hwH hW⟩
end
end Pg

namespace Pg
open PySem L2
section
variable {P : Program} {w : World} {K : PySem.W.Frag} {mg : Str → Option Value} {base : Heap} {ca : CA}
abbrev s_law_points : Stmt := topS 16
theorem sc_law_points : FnScope ["cell", "most"] ["cell", "most"] (defScope s_law_points) := ⟨rfl, rfl, rfl, by decide +kernel, rfl, by decide +kernel, by decide +kernel⟩
def sp_law_points (K : PySem.W.Frag) : Sp := fun vs H Q _ => ∃ (c m : Int), vs = [.int c, .int m] ∧ 0 ≤ m ∧ m ≤ 60 ∧ ∀ n : Int, 0 ≤ n → n ≤ 60 → Q (.int n) H
theorem ok_law_points (T : Txt K mg ca) (D : Def K mg "_law_points" ["cell", "most"] s_law_points) : Known P w K mg base CX0 1 "_law_points" ["cell", "most"] (sp_law_points K) := by
  refine D.known fun f fd F => F.ok sc_law_points (fun vs H Q E h => ?_) (fun cdv A outer s H vs Q E hr h => ?_)
  · obtain ⟨_, _, rfl, _⟩ := h
    rfl
  · obtain ⟨c, m, rfl, h0, h1, q⟩ := h
    refine ⟨_, (pss_cons (ps_if (pt_cmpR op_eq (pe_op op_mod (pe_op op_fdiv (pv 0) pe_int) pe_int) pe_int (nomark _))
      (pss_one (ps_ret (pe_op op_mod (pe_op op_fdiv (pv 0) pe_int) pe_int)))
      pss_nil)
      (pss_one (ps_ret (pe_op op_mod (pv 0) (pe_op op_add (pv 1) pe_int))))), ?_⟩
    refine ⟨_, rfl, _, _, rfl, rfl, ⟨by decide, by decide⟩, _, _, rfl, rfl, (by decide : (0 : Int) < 8), rfl, _, rfl, ite2 (fun _ => ?_) (fun _ => ?_)⟩
    · refine ⟨_, rfl, _, _, rfl, rfl, ⟨by decide, by decide⟩, _, _, rfl, rfl, (by decide : (0 : Int) < 61), ?_⟩
      have a1 := Int.emod_nonneg (c / 512) (by decide : (61 : Int) ≠ 0)
      have a2 := Int.emod_lt_of_pos (c / 512) (by decide : (0 : Int) < 61)
      exact q _ a1 (by omega)
    · have hm : (0 : Int) < m + 1 := by omega
      refine ⟨_, rfl, _, rfl, _, _, rfl, rfl, _, _, rfl, rfl, hm, ?_⟩
      have a1 := Int.emod_nonneg c (by omega : (m + 1 : Int) ≠ 0)
      have a2 := Int.emod_lt_of_pos c hm
      exact q _ a1 (by omega)
end
end Pg

namespace Pg
open PySem L2
section
variable {P : Program} {w : World} {K : PySem.W.Frag} {mg : Str → Option Value} {base : Heap} {ca : CA}
abbrev s_law_drawn : Stmt := topS 17
theorem sc_law_drawn : FnScope ["script", "start", "most", "cell"] ["script", "start", "most"] (defScope s_law_drawn) := ⟨rfl, rfl, rfl, by decide +kernel, rfl, by decide +kernel, by decide +kernel⟩
/-- some walk -/
def sp_law_drawn (K : PySem.W.Frag) : Sp := fun vs H Q _ => ∃ (a : Addr) (ns : List Int) (k m : Int), vs = [.ref a, .int k, .int m] ∧ SqL K H a (ns.map V.int) ∧ 0 ≤ k ∧ 0 ≤ m ∧ m ≤ 60 ∧
  ∀ (ws : List Stp) (H' : Hp) (q : Addr), run 0 ws = some 0 → ws.length ≤ 60 → Same H H' → H q = none → H' q = some (.lst (ws.map Stp.v)) → Q (.ref q) H'
theorem ok_law_drawn (T : Txt K mg ca) (D : Def K mg "_law_drawn" ["script", "start", "most"] s_law_drawn) (G_law_cell_at : Known P w K mg base CX0 1 "_law_cell_at" ["script", "k"] (sp_law_cell_at K)) (G_law_walk : Known P w K mg base CX0 2 "_law_walk" ["cell", "points", "plain"] (sp_law_walk K)) (G_law_points : Known P w K mg base CX0 1 "_law_points" ["cell", "most"] (sp_law_points K)) : Known P w K mg base CX0 3 "_law_drawn" ["script", "start", "most"] (sp_law_drawn K) := by
  refine D.known fun f fd F => F.ok sc_law_drawn (fun vs H Q E h => ?_) (fun cdv A outer s H vs Q E hr h => ?_)
  · obtain ⟨_, _, _, _, rfl, _⟩ := h
    rfl
  · obtain ⟨a, ns, k, m, rfl, hS, hk, h0, h1, q⟩ := h
    refine ⟨_, (pss_cons (ps_set (i := 3) sc_law_drawn.nd rfl (Or.inl rfl) (pe_kc G_law_cell_at (hr.mono (by decide)) (by rfl) pass0 (pa_cons (pv 0) (pa_cons (pv 1) pa_nil))))
      (pss_one (ps_ret (pe_kc G_law_walk (hr.mono (by decide)) (by rfl) pass0 (pa_cons (pe_kc G_law_cell_at (hr.mono (by decide)) (by rfl) pass0 (pa_cons (pv 0) (pa_cons (pe_op op_add (pv 1) pe_int) pa_nil))) (pa_cons (pe_kc G_law_points (hr.mono (by decide)) (by rfl) pass0 (pa_cons (pv 3) (pa_cons (pv 2) pa_nil))) (pa_cons (pe_cmpR op_eq (pe_op op_mod (pe_op op_fdiv (pv 3) pe_int) pe_int) pe_int (nomark _)) pa_nil))))))), ?_⟩
    refine ⟨_, rfl, _, rfl, a, ns, k, rfl, hS, hk, ?_⟩
    refine ⟨_, rfl, _, rfl, _, _, rfl, rfl, a, ns, k + 1, rfl, hS, by omega, ?_⟩
    refine ⟨_, rfl, _, rfl, _, m, rfl, h0, h1, fun n n0 n1 => ?_⟩
    refine ⟨_, rfl, _, _, rfl, rfl, ⟨by decide, by decide⟩, _, _, rfl, rfl, (by decide : (0 : Int) < 2), rfl, ?_⟩
    exact ⟨_, n, _, rfl, n0, n1, fun ws H' p r1 r2 r3 r4 r5 => q ws H' p r1 (by omega) r3 r4 r5⟩
end
end Pg

namespace Pg
open PySem L2
section
variable {P : Program} {w : World} {K : PySem.W.Frag} {mg : Str → Option Value} {base : Heap} {ca : CA}
abbrev s_pairing_of : Stmt := topS 9
theorem sc_pairing_of : FnScope ["walk", "pairs", "open_ones", "point", "step"] ["walk"] (defScope s_pairing_of) := ⟨rfl, rfl, rfl, by decide +kernel, rfl, by decide +kernel, by decide +kernel⟩
/-- of a list of whole numbers and texts: the pairing of the walk that it is, or NoWalk -/
def sp_pairing_of (K : PySem.W.Frag) (ca : CA) : Sp := fun vs H Q E => ∃ (a : Addr) (xs : List V), vs = [.ref a] ∧ SqL K H a xs ∧ (∀ x ∈ xs, isIS x = true) ∧ xs.length ≤ 1000 ∧
  (∀ ws, WalkOf xs ws → ∀ (H' : Hp) (v : V), Same H H' → PairingAt H' v (ws.length : Int) (prs ws) → Q v H') ∧ ((¬ ∃ ws, WalkOf xs ws) → ∀ H', Same H H' → E (.ref ca.NoWalk) none H')
theorem ok_pairing_of (T : Txt K mg ca) (D : Def K mg "pairing_of" ["walk"] s_pairing_of) : Known P w K mg base (L2.CX P w) 1 "pairing_of" ["walk"] (sp_pairing_of K ca) := by
  refine D.known fun f fd F => F.okX sc_pairing_of (fun vs H Q E h => ?_) (fun cdv A outer s H vs Q E hr h => ?_)
  · obtain ⟨_, _, rfl, _⟩ := h
    rfl
  · obtain ⟨a, xs, rfl, hS, his, hlen, q, ke⟩ := h
    refine ⟨_, (pss_cons (ps_if (pt_cmpR op_gt (pe_callB (callLen K) (by rfl) T.z_len PySem.boot_len (pa_cons (pv 0) pa_nil)) (pe_gi T.g_MOST) (nomark _))
      (pss_one (ps_raise rfl (takes_of rfl rfl rfl rfl) (pmk_own PySem.F.excBase_ValueError T.x_NoWalk T.g_NoWalk T.k_NoWalk (raises_own T.b_NoWalk T.t_NoWalk) (by exact rfl))))
      pss_nil)
      (pss_cons (ps_set (i := 1) sc_pairing_of.nd rfl (Or.inl rfl) (pe_lst pa_nil))
      (pss_cons (ps_set (i := 2) sc_pairing_of.nd rfl (Or.inl rfl) (pe_lst pa_nil))
      (pss_cons (ps_for (passes_of rfl) rfl (pi_range1 (by rfl) T.z_range (pa_cons (pe_callB (callLen K) (by rfl) T.z_len PySem.boot_len (pa_cons (pv 0) pa_nil)) pa_nil)) (pg_name (i := 3) sc_pairing_of.nd rfl (Or.inl rfl))
      (pss_cons (ps_set (i := 4) sc_pairing_of.nd rfl (Or.inl rfl) (pe_ix (ixL K) (pv 0) (pv 3) (fun _ _ => rfl)))
      (pss_one (ps_if (pt_cmpR op_eq (pv 4) pe_str (nomark _))
      (pss_one (ps_expr (peM K PySem.F.plainAttrs_list PySem.F.slot_list_append PySem.F.type_list_append mt_append (pv 2) (pa_cons (pv 3) pa_nil))))
      (pss_one (ps_if (pt_cmpR op_ne (pv 4) pe_str (nomark _))
      (pss_cons (ps_if (PW.pt (pw_or (pt_val (pe_callB (callIsi K) (by rfl) T.z_isinstance (by decide +kernel) (pa_cons (pv 4) (pa_cons (pe_bltn (v := .ty "str") (by rfl) T.z_str (by decide +kernel) rfl) pa_nil)))) (pw_or (pt_cmpR op_lt (pv 4) pe_int (nomark _)) (pw_or1 (pt_cmpR op_ge (pv 4) (pe_callB (callLen K) (by rfl) T.z_len PySem.boot_len (pa_cons (pv 2) pa_nil)) (nomark _))))))
      (pss_one (ps_raise rfl (takes_of rfl rfl rfl rfl) (pmk_own PySem.F.excBase_ValueError T.x_NoWalk T.g_NoWalk T.k_NoWalk (raises_own T.b_NoWalk T.t_NoWalk) (by exact rfl))))
      pss_nil)
      (pss_one (ps_expr (peM K PySem.F.plainAttrs_list PySem.F.slot_list_append PySem.F.type_list_append mt_append (pv 1) (pa_cons (pe_tup (pa_cons (peM K PySem.F.plainAttrs_list PySem.F.slot_list_pop PySem.F.type_list_pop mt_popAt (pv 2) (pa_cons (pv 4) pa_nil)) (pa_cons (pv 3) pa_nil))) pa_nil)))))
      pss_nil))))))
      (pss_cons (ps_if (pt_cmpR op_gt (pe_callB (callLen K) (by rfl) T.z_len PySem.boot_len (pa_cons (pv 2) pa_nil)) pe_int (nomark _))
      (pss_one (ps_raise rfl (takes_of rfl rfl rfl rfl) (pmk_own PySem.F.excBase_ValueError T.x_NoWalk T.g_NoWalk T.k_NoWalk (raises_own T.b_NoWalk T.t_NoWalk) (by exact rfl))))
      pss_nil)
      (pss_one (ps_ret (pe_tup (pa_cons (pe_callB (callLen K) (by rfl) T.z_len PySem.boot_len (pa_cons (pv 0) pa_nil)) (pa_cons (pe_callTy (callTup K) (by rfl) T.z_tuple (by decide +kernel) (pa_cons (pe_callB (cr_sortedPP K) (by rfl) T.z_sorted (by decide +kernel) (pa_cons (pv 1) pa_nil)) pa_nil)) pa_nil)))))))))), ?_⟩
    refine ⟨_, rfl, a, _, rfl, .inl hS, _, _, rfl, rfl, _, rfl, ?_⟩
    by_cases c60 : 60 < xs.length
    · rw [decide_eq_true (by omega)]
      exact iteT (ke (no_walk_long c60) H (Same.refl _))
    rw [decide_eq_false (by omega)]
    refine iteF ?_
    refine ⟨Nat.zero_le _, fun r hr' => ?_⟩
    refine ⟨Nat.zero_le _, fun o ho => ?_⟩
    have nro : r ≠ o := ne_of_none upd_same ho
    have hoH : H o = none := by
      rw [upd_ne (Ne.symm nro)] at ho
      exact ho
    have s1 := (sm_new (o := .lst []) hr').trans (sm_new (o := .lst []) ho)
    refine ⟨_, rfl, a, _, rfl, .inl (s1.seq hS), _, rfl, by omega, by omega, ?_⟩
    refine for_range (lo := 0) (n := (xs.length : Int).toNat) (fun i σ H' => ∃ (ws : List Stp) (h : Nat) (ys : List V) (x3 x4 : Option V), σ = [some (.ref a), some (.ref r), some (.ref o), x3, x4] ∧
      xs.take i = ws.map Stp.v ∧ run 0 ws = some h ∧ Same H H' ∧ H' o = some (.lst ((opens 0 [] ws).map V.int)) ∧ H' r = some (.lst ys) ∧ PairsAt H' ys (clo 0 [] ws)) ?_ ?_ ?_
    · exact ⟨[], 0, [], none, none, rfl, rfl, rfl, s1, upd_same, by rw [upd_ne nro, upd_same], .nil⟩
    · rintro i σ H' hi ⟨ws, h, ys, x3, x4, rfl, ht, hrun, hs, hO, hR, hP⟩
      have hi' : i < xs.length := by omega
      have hx : xs[i]? = some xs[i] := List.getElem?_eq_getElem hi'
      have hA : SqL K H' a xs := hs.seq hS
      have hwl : ws.length = i := by
        have e := congrArg List.length ht
        rw [List.length_take, List.length_map] at e
        omega
      have hol : (opens 0 [] ws).length = h := opens_len ws 0 [] hrun
      have hle : h ≤ i := by
        have := run_le ws hrun
        omega
      have hpl : (clo 0 [] ws).length ≤ i := by
        have := clo_len ws
        omega
      have hisx := his _ (List.getElem_mem hi')
      have nx : ∀ st : Stp, xs[i] = st.v → xs.take (i + 1) = (ws ++ [st]).map Stp.v := fun st e => by
        rw [take_succ hx, ht, e, List.map_append]
        rfl
      have e1 : ∀ st : Stp, opens 0 [] (ws ++ [st]) = opens (i : Int) (opens 0 [] ws) [st] := fun st => by
        rw [opens_append, hwl, Int.zero_add]
      have e2 : ∀ st : Stp, clo 0 [] (ws ++ [st]) = clo 0 [] ws ++ clo (i : Int) (opens 0 [] ws) [st] := fun st => by
        rw [clo_append, hwl, Int.zero_add]
      have hat : atI xs (0 + (i : Int)) = some xs[i] := at_of (j := i) (by omega) hx
      refine ⟨_, rfl, _, rfl, a, _, _, _, rfl, rfl, hA, hat, ?_⟩
      revert hx hisx nx hat
      generalize xs[i] = x
      intro hx hisx nx hat
      cases x with
      | str y =>
        refine ⟨_, rfl, rfl, _, rfl, ?_⟩
        rw [dstr]
        by_cases co : y = "open"
        · rw [decide_eq_true co]
          subst co
          refine iteT ?_
          refine ⟨_, rfl, .inl ⟨rfl, _, SqL.of hO⟩, _, rfl, o, _, _, rfl, rfl, hO, szl (by rw [List.length_map]; omega), ?_⟩
          refine ⟨ws ++ [.opn], h + 1, ys, _, _, rfl, nx .opn rfl, run_opn hrun, sm_mut hs hoH, ?_, (by rw [upd_ne nro]; exact hR), ?_⟩
          · rw [upd_same, e1]
            show _ = some (HO.lst ((opens 0 [] ws ++ [(i : Int)]).map V.int))
            rw [List.map_append, Int.zero_add]
            rfl
          · rw [e2]
            show PairsAt _ ys (clo 0 [] ws ++ [])
            rw [List.append_nil]
            exact upd_pairs hO hP
        · rw [decide_eq_false co]
          refine iteF ⟨_, rfl, rfl, _, rfl, ?_⟩
          rw [dstr]
          by_cases cl : y = "lone"
          · rw [decide_eq_true cl]
            subst cl
            refine iteF ?_
            refine ⟨ws ++ [.lone], h, ys, _, _, rfl, nx .lone rfl, run_lone hrun, hs, ?_, hR, ?_⟩
            · rw [e1]
              exact hO
            · rw [e2]
              show PairsAt _ ys (clo 0 [] ws ++ [])
              rw [List.append_nil]
              exact hP
          · rw [decide_eq_false cl]
            refine iteT ?_
            refine ⟨_, rfl, .str y, .ty "str", .type "str", .type "str", true, rfl, .ty _, .base (.str _), kit_ty (by decide +kernel), _, rfl, iteT (iteT ?_)⟩
            exact ke (no_walk_at ht hrun hx (str_bad co cl)) H' hs
      | int z =>
        refine ⟨_, rfl, rfl, _, rfl, iteF ?_⟩
        refine ⟨_, rfl, rfl, _, rfl, iteT ?_⟩
        refine ⟨_, rfl, .int z, .ty "str", .type "int", .type "str", false, rfl, .ty _, .base (.int _), kit_ty (by decide +kernel), _, rfl, iteF ?_⟩
        refine ⟨_, rfl, _, _, rfl, rfl, _, rfl, ?_⟩
        by_cases c0 : z < 0
        · rw [decide_eq_true c0]
          exact iteT (iteT (ke (no_walk_at ht hrun hx (num_bad (.inl c0))) H' hs))
        rw [decide_eq_false c0]
        refine iteF ⟨_, rfl, _, rfl, o, _, rfl, .inl (SqL.of hO), _, _, rfl, rfl, _, rfl, ?_⟩
        rw [List.length_map, hol]
        by_cases c1 : (h : Int) ≤ z
        · rw [decide_eq_true c1]
          exact iteT (ke (no_walk_at ht hrun hx (num_bad (.inr c1))) H' hs)
        rw [decide_eq_false c1]
        refine iteF ?_
        obtain ⟨k, rfl⟩ : ∃ k : Nat, z = (k : Int) := ⟨z.toNat, by omega⟩
        have hk : k < (opens 0 [] ws).length := by omega
        refine ⟨_, rfl, .inl ⟨rfl, _, SqL.of hR⟩, _, rfl, .inl ⟨rfl, _, SqL.of hO⟩, _, rfl, ?_⟩
        refine ⟨o, _, (k : Int), k, .int ((opens 0 [] ws).getD k 0), rfl, rfl, hO, by omega, by omega, (ixN_seq (ixn rfl (by rw [List.length_map]; exact hk))).1, ?_, ?_⟩
        · rw [List.getElem?_map, List.getElem?_eq_getElem hk, List.getD_eq_getElem?_getD, List.getElem?_eq_getElem hk]
          rfl
        refine ⟨_, rfl, (by show 2 ≤ sizeLine; decide), fun t ht' => ?_⟩
        have hOt : (upd H' o (.lst (((opens 0 [] ws).map V.int).eraseIdx k))) o = some (.lst (((opens 0 [] ws).map V.int).eraseIdx k)) := upd_same
        have not' : o ≠ t := ne_of_none hOt ht'
        have hT : H' t = none := by
          rw [upd_ne (Ne.symm not')] at ht'
          exact ht'
        have nrt : r ≠ t := ne_of_none hR hT
        refine ⟨r, ys, _, rfl, rfl, (by rw [upd_ne nrt, upd_ne nro]; exact hR), szl (by rw [paired_length hP]; omega), ?_⟩
        refine ⟨ws ++ [.num k], h - 1, ys ++ [.ref t], _, _, rfl, nx (.num k) rfl, run_num hrun (by omega), ?_, ?_, upd_same, ?_⟩
        · intro b z hb
          have hb1 := hs b z hb
          rw [upd_ne (fun e => by rw [e, hr'] at hb; cases hb), upd_ne (ne_of_none hb1 hT), upd_ne (fun e => by rw [e, hoH] at hb; cases hb)]
          exact hb1
        · rw [upd_ne (Ne.symm nro), upd_ne not', upd_same, e1, erase_mapI]
          rfl
        · rw [e2]
          show PairsAt _ _ (clo 0 [] ws ++ [((opens 0 [] ws).getD k 0, (i : Int))])
          have p1 : PairsAt (upd H' o (.lst (((opens 0 [] ws).map V.int).eraseIdx k))) ys (clo 0 [] ws) := upd_pairs hO hP
          refine paired_append (upd_pairs (o := .lst ys) (by rw [upd_ne nrt, upd_ne nro]; exact hR) (PairsAt.mono (sm_new ht') p1)) (.cons ⟨t, rfl, ?_⟩ .nil)
          rw [upd_ne (Ne.symm nrt), upd_same, Int.zero_add]
      | non => cases hisx
      | bl _ => cases hisx
      | byt _ => cases hisx
      | flt _ => cases hisx
      | ref _ => cases hisx
      | ty _ => cases hisx
    · rintro σ H' ⟨ws, h, ys, x3, x4, rfl, ht, hrun, hs, hO, hR, hP⟩
      have hA : SqL K H' a xs := hs.seq hS
      have e : ((xs.length : Int)).toNat = xs.length := by omega
      rw [e, List.take_length] at ht
      have hol : (opens 0 [] ws).length = h := opens_len ws 0 [] hrun
      have hwl : ws.length = xs.length := by rw [ht, List.length_map]
      refine ⟨_, rfl, o, _, rfl, .inl (SqL.of hO), _, _, rfl, rfl, _, rfl, ?_⟩
      rw [List.length_map, hol]
      by_cases c : (0 : Int) < (h : Int)
      · rw [decide_eq_true c]
        exact iteT (ke (no_walk_end ht hrun (by omega)) H' hs)
      rw [decide_eq_false c]
      have h0 : h = 0 := by omega
      subst h0
      refine iteF ?_
      refine ⟨_, rfl, a, _, rfl, .inl hA, _, rfl, r, ys, _, rfl, SqL.of hR, hP, fun zs p hy hperm hp => ?_⟩
      refine ⟨p, zs, rfl, .inl ⟨SqL.of upd_same, fun t ht' => ?_⟩⟩
      refine ⟨(by show 2 ≤ sizeLine; decide), fun u hu => ?_⟩
      refine q ws ⟨ht, hrun, by omega⟩ _ _ (((hs.trans (sm_new hp)).trans (sm_new ht')).trans (sm_new hu)) ⟨u, t, zs, rfl, ?_, ?_, ?_⟩
      · rw [upd_same, hwl]
      · rw [upd_ne (ne_of_none upd_same hu), upd_same]
      · exact ((hy.mono (sm_new hp)).mono (sm_new ht')).mono (sm_new hu)
end
end Pg

namespace Pg
open PySem L2
section
variable {P : Program} {w : World} {K : PySem.W.Frag} {mg : Str → Option Value} {base : Heap} {ca : CA}
abbrev s_law_whole : Stmt := topS 12
theorem sc_law_whole : FnScope ["found"] ["found"] (defScope s_law_whole) := ⟨rfl, rfl, rfl, by decide +kernel, rfl, by decide +kernel, by decide +kernel⟩
def sp_law_whole (K : PySem.W.Frag) : Sp := fun vs H Q _ => ∃ (i : Int), vs = [.int i] ∧ Q (.bl true) H
theorem ok_law_whole (T : Txt K mg ca) (D : Def K mg "_law_whole" ["found"] s_law_whole) : Known P w K mg base CX0 1 "_law_whole" ["found"] (sp_law_whole K) := by
  refine D.known fun f fd F => F.ok sc_law_whole (fun vs H Q E h => ?_) (fun cdv A outer s H vs Q E hr h => ?_)
  · obtain ⟨_, rfl, _⟩ := h
    rfl
  · obtain ⟨i, rfl, q⟩ := h
    refine ⟨_, (pss_one (ps_ret (pe_and (pe_callB (callIsi K) (by rfl) T.z_isinstance (by decide +kernel) (pa_cons (pv 0) (pa_cons (pe_bltn (v := .ty "int") (by rfl) T.z_int (by decide +kernel) rfl) pa_nil))) (pe_one (pe_not (pe_callB (callIsi K) (by rfl) T.z_isinstance (by decide +kernel) (pa_cons (pv 0) (pa_cons (pe_bltn (v := .ty "bool") (by rfl) T.z_bool (by decide +kernel) rfl) pa_nil)))))))), ?_⟩
    refine ⟨_, rfl, .int i, .ty "int", .type "int", .type "int", true, rfl, .ty _, .base (.int i), kit_ty (by decide +kernel), _, rfl, iteT ?_⟩
    exact ⟨_, rfl, .int i, .ty "bool", .type "int", .type "bool", false, rfl, .ty _, .base (.int i), kit_ty (by decide +kernel), _, rfl, q⟩
end
end Pg

namespace Pg
open PySem L2
section
variable {P : Program} {w : World} {K : PySem.W.Frag} {mg : Str → Option Value} {base : Heap} {ca : CA}
abbrev s_law_is_pairing : Stmt := topS 18
theorem sc_law_is_pairing : FnScope ["found", "due", "pair"] ["found", "due"] (defScope s_law_is_pairing) := ⟨rfl, rfl, rfl, by decide +kernel, rfl, by decide +kernel, by decide +kernel⟩
def sp_law_is_pairing (K : PySem.W.Frag) : Sp := fun vs H Q _ => ∃ (v u : V) (n : Int) (ps : List Pr), vs = [v, u] ∧ PairingAt H v n ps ∧ PairingAt H u n ps ∧ Q (.bl true) H
theorem ok_law_is_pairing (T : Txt K mg ca) (D : Def K mg "_law_is_pairing" ["found", "due"] s_law_is_pairing) (G_law_whole : Known P w K mg base CX0 1 "_law_whole" ["found"] (sp_law_whole K)) : Known P w K mg base CX0 2 "_law_is_pairing" ["found", "due"] (sp_law_is_pairing K) := by
  refine D.known fun f fd F => F.ok sc_law_is_pairing (fun vs H Q E h => ?_) (fun cdv A outer s H vs Q E hr h => ?_)
  · obtain ⟨_, _, _, _, rfl, _⟩ := h
    rfl
  · obtain ⟨v, u, n, ps, rfl, h1, h2, q⟩ := h
    have d1 := h1.dp (K := K)
    have d2 := h2.dp (K := K)
    obtain ⟨a, b, xs, rfl, a1, a2, a3⟩ := h1
    have g0 : atI [V.int n, V.ref b] 0 = some (.int n) := atI_nat (j := 0) rfl
    have g1 : atI [V.int n, V.ref b] 1 = some (.ref b) := atI_nat (j := 1) rfl
    refine ⟨_, (pss_cons (ps_if (PW.pt (pw_or (pt_not (pt_val (pe_callB (callIsi K) (by rfl) T.z_isinstance (by decide +kernel) (pa_cons (pv 0) (pa_cons (pe_bltn (v := .ty "tuple") (by rfl) T.z_tuple (by decide +kernel) rfl) pa_nil))))) (pw_or (pt_cmpR op_ne (pe_callB (callLen K) (by rfl) T.z_len PySem.boot_len (pa_cons (pv 0) pa_nil)) pe_int (nomark _)) (pw_or (pt_not (pt_val (pe_kc G_law_whole (hr.mono (by decide)) (by rfl) pass0 (pa_cons (pe_ix (ixT K) (pv 0) pe_int (fun _ _ => rfl)) pa_nil)))) (pw_or1 (pt_cmpR (neD K hr.units) (pv 0) (pv 1) (nomark _)))))))
      (pss_one (ps_ret pe_bl))
      pss_nil)
      (pss_cons (ps_if (pt_not (pt_val (pe_callB (callIsi K) (by rfl) T.z_isinstance (by decide +kernel) (pa_cons (pe_ix (ixT K) (pv 0) pe_int (fun _ _ => rfl)) (pa_cons (pe_bltn (v := .ty "tuple") (by rfl) T.z_tuple (by decide +kernel) rfl) pa_nil)))))
      (pss_one (ps_ret pe_bl))
      pss_nil)
      (pss_cons (ps_for PassesOwn.never rfl (piT K (pe_ix (ixT K) (pv 0) pe_int (fun _ _ => rfl))) (pg_name (i := 2) sc_law_is_pairing.nd rfl (Or.inl rfl))
      (pss_one (ps_if (PW.pt (pw_or (pt_not (pt_val (pe_callB (callIsi K) (by rfl) T.z_isinstance (by decide +kernel) (pa_cons (pv 2) (pa_cons (pe_bltn (v := .ty "tuple") (by rfl) T.z_tuple (by decide +kernel) rfl) pa_nil))))) (pw_or (pt_not (pt_val (pe_kc G_law_whole (hr.mono (by decide)) (by rfl) pass0 (pa_cons (pe_ix (ixT K) (pv 2) pe_int (fun _ _ => rfl)) pa_nil)))) (pw_or1 (pt_not (pt_val (pe_kc G_law_whole (hr.mono (by decide)) (by rfl) pass0 (pa_cons (pe_ix (ixT K) (pv 2) pe_int (fun _ _ => rfl)) pa_nil))))))))
      (pss_one (ps_ret pe_bl))
      pss_nil)))
      (pss_one (ps_ret pe_bl))))), ?_⟩
    refine ⟨_, rfl, .ref a, .ty "tuple", .type "tuple", .type "tuple", true, rfl, .ty _, .base (.tup a1), kit_ty (by decide +kernel), _, rfl, iteF ?_⟩
    refine ⟨_, rfl, a, _, rfl, .inr (SqT.of a1), rfl, _, rfl, iteF ?_⟩
    refine ⟨_, rfl, a, _, 0, _, rfl, rfl, SqT.of a1, g0, n, rfl, _, rfl, iteF ?_⟩
    refine ⟨_, rfl, _, rfl, _, _, d1, d2, (shp_pgD n ps).shaped, (shp_pgD n ps).shaped, _, rfl, ?_⟩
    rw [(shp_pgD n ps).refl]
    refine iteF ?_
    refine ⟨_, rfl, a, _, 1, _, rfl, rfl, SqT.of a1, g1, .ref b, .ty "tuple", .type "tuple", .type "tuple", true, rfl, .ty _, .base (.tup a2), kit_ty (by decide +kernel), _, rfl, iteF ?_⟩
    refine ⟨_, rfl, a, _, 1, _, rfl, rfl, SqT.of a1, g1, b, rfl, ⟨_, SqT.of a2⟩, ?_⟩
    refine for_tup (K := K) (a := b) (xs := xs) (fun i σ H' => ∃ x2, σ = [some (.ref a), some u, x2] ∧ H' = H) ⟨none, rfl, rfl⟩ (fun i σ H' _ ⟨_, _, e⟩ => by rw [e]; exact SqT.of a2) ?_ ?_
    · rintro i x σ H' hx ⟨x2, rfl, rfl⟩
      obtain ⟨p, hp, t, rfl, ht⟩ := paired_get' a3 hx
      have t0 : atI [V.int p.1, V.int p.2] 0 = some (.int p.1) := atI_nat (j := 0) rfl
      have t1 : atI [V.int p.1, V.int p.2] 1 = some (.int p.2) := atI_nat (j := 1) rfl
      refine ⟨_, rfl, .ref t, .ty "tuple", .type "tuple", .type "tuple", true, rfl, .ty _, .base (.tup ht), kit_ty (by decide +kernel), _, rfl, iteF ?_⟩
      refine ⟨_, rfl, t, _, 0, _, rfl, rfl, SqT.of ht, t0, _, rfl, _, rfl, iteF ?_⟩
      refine ⟨_, rfl, t, _, 1, _, rfl, rfl, SqT.of ht, t1, _, rfl, _, rfl, iteF ?_⟩
      exact ⟨_, rfl, rfl⟩
    · rintro σ H' ⟨x2, rfl, rfl⟩
      exact q
end
end Pg

namespace Pg
open PySem L2
section
variable {P : Program} {w : World} {K : PySem.W.Frag} {mg : Str → Option Value} {base : Heap} {ca : CA}
abbrev s_law_of_walk : Stmt := topS 15
theorem sc_law_of_walk : FnScope ["walk", "open_ones", "pairs", "point", "start", "one"] ["walk"] (defScope s_law_of_walk) := ⟨rfl, rfl, rfl, by decide +kernel, rfl, by decide +kernel, by decide +kernel⟩
/-- the pairing of a walk -/
def sp_law_of_walk (K : PySem.W.Frag) : Sp := fun vs H Q _ => ∃ (a : Addr) (ws : List Stp) (h : Nat), vs = [.ref a] ∧ SqL K H a (ws.map Stp.v) ∧ run 0 ws = some h ∧ ws.length ≤ 100 ∧
  ∀ (H' : Hp) (v : V), Same H H' → PairingAt H' v (ws.length : Int) (prs ws) → Q v H'
theorem ok_law_of_walk (T : Txt K mg ca) (D : Def K mg "_law_of_walk" ["walk"] s_law_of_walk) : Known P w K mg base CX0 1 "_law_of_walk" ["walk"] (sp_law_of_walk K) := by
  refine D.known fun f fd F => F.ok sc_law_of_walk (fun vs H Q E h => ?_) (fun cdv A outer s H vs Q E hr h => ?_)
  · obtain ⟨_, _, _, rfl, _⟩ := h
    rfl
  · obtain ⟨a, ws, h, rfl, hS, hrun, hlen, q⟩ := h
    refine ⟨_, (pss_cons (ps_set (i := 1) sc_law_of_walk.nd rfl (Or.inl rfl) (pe_lst pa_nil))
      (pss_cons (ps_set (i := 2) sc_law_of_walk.nd rfl (Or.inl rfl) (pe_lst pa_nil))
      (pss_cons (ps_for PassesOwn.never rfl (pi_range1 (by rfl) T.z_range (pa_cons (pe_callB (callLen K) (by rfl) T.z_len PySem.boot_len (pa_cons (pv 0) pa_nil)) pa_nil)) (pg_name (i := 3) sc_law_of_walk.nd rfl (Or.inl rfl))
      (pss_one (ps_if (pt_cmpR op_eq (pe_ix (ixL K) (pv 0) (pv 3) (fun _ _ => rfl)) pe_str (nomark _))
      (pss_one (ps_expr (peM K PySem.F.plainAttrs_list PySem.F.slot_list_append PySem.F.type_list_append mt_append (pv 1) (pa_cons (pv 3) pa_nil))))
      (pss_one (ps_if (pt_cmpR op_ne (pe_ix (ixL K) (pv 0) (pv 3) (fun _ _ => rfl)) pe_str (nomark _))
      (pss_cons (ps_set (i := 4) sc_law_of_walk.nd rfl (Or.inr rfl) (pe_ix (ixL K) (pv 1) (pe_ix (ixL K) (pv 0) (pv 3) (fun _ _ => rfl)) (fun _ _ => rfl)))
      (pss_cons (ps_setLc (i := 1) (own := [("one", 5)]) (g := gName 5) (tt := _) rfl sc_law_of_walk.nd rfl rfl (sw_true rfl rfl rfl (by decide +kernel)) (piL K (pv 1)) (blkOk_by (N := ["walk", "open_ones", "pairs", "point", "start", "one"]) (sc := defScope s_law_of_walk) (by decide +kernel)) (fun _ _ _ _ _ => (pg_name (i := 5) sc_law_of_walk.nd rfl (Or.inl rfl))) (fun _ _ _ _ _ => (pts_one (pt_cmpR op_ne (pv 5) (pv 4) (nomark _)))) (fun _ _ _ _ _ => (pv 5)))
      (pss_one (ps_expr (peM K PySem.F.plainAttrs_list PySem.F.slot_list_append PySem.F.type_list_append mt_append (pv 2) (pa_cons (pe_tup (pa_cons (pv 4) (pa_cons (pv 3) pa_nil))) pa_nil))))))
      pss_nil)))))
      (pss_one (ps_ret (pe_tup (pa_cons (pe_callB (callLen K) (by rfl) T.z_len PySem.boot_len (pa_cons (pv 0) pa_nil)) (pa_cons (pe_callTy (callTup K) (by rfl) T.z_tuple (by decide +kernel) (pa_cons (pe_callB (cr_sortedPP K) (by rfl) T.z_sorted (by decide +kernel) (pa_cons (pv 2) pa_nil)) pa_nil)) pa_nil)))))))), ?_⟩
    refine ⟨Nat.zero_le _, fun o ho => ?_⟩
    refine ⟨Nat.zero_le _, fun r hr' => ?_⟩
    have nor : o ≠ r := ne_of_none upd_same hr'
    have hrH : H r = none := by
      rw [upd_ne (Ne.symm nor)] at hr'
      exact hr'
    have s1 := (sm_new (o := .lst []) ho).trans (sm_new (o := .lst []) hr')
    -- for point in range(len(walk))
    refine ⟨_, rfl, a, _, rfl, .inl (s1.seq hS), _, rfl, by omega, (by rw [List.length_map]; omega), ?_⟩
    refine for_range (lo := 0) (n := ((ws.map Stp.v).length : Int).toNat) (fun i σ H' => ∃ (o : Addr) (xs : List V) (x3 x4 x5 : Option V), σ = [some (.ref a), some (.ref o), some (.ref r), x3, x4, x5] ∧
      H o = none ∧ o ≠ r ∧ Same H H' ∧ H' o = some (.lst ((osAt ws i).map V.int)) ∧ H' r = some (.lst xs) ∧ PairsAt H' xs (prAt ws i)) ?_ ?_ ?_
    · exact ⟨o, [], none, none, none, rfl, ho, nor, s1, (by rw [upd_ne nor, upd_same]; rfl), upd_same, .nil⟩
    · rintro i σ H' hi ⟨o, xs, x3, x4, x5, rfl, ho, nor, hs, hO, hR, hP⟩
      have hi' : i < ws.length := by
        rw [List.length_map] at hi
        omega
      obtain ⟨st, hst, hv⟩ := step_at hi'
      have hA : SqL K H' a (ws.map Stp.v) := hs.seq hS
      have hat : atI (ws.map Stp.v) (0 + (i : Int)) = some st.v := at_of (j := i) (by omega) hv
      have e1 := os_succ hst
      have e2 := pr_succ hst
      have hos := os_le ws i
      have hpr := pr_le ws i
      refine ⟨_, rfl, _, rfl, a, _, _, _, rfl, rfl, hA, hat, ?_⟩
      cases st with
      | opn =>
        refine ⟨rfl, _, rfl, iteT ?_⟩
        refine ⟨_, rfl, .inl ⟨rfl, _, SqL.of hO⟩, _, rfl, o, _, _, rfl, rfl, hO, szl (by rw [List.length_map]; omega), ?_⟩
        refine ⟨o, xs, _, _, _, rfl, ho, nor, sm_mut hs ho, ?_, (by rw [upd_ne (Ne.symm nor)]; exact hR), ?_⟩
        · rw [upd_same, e1]
          show _ = some (HO.lst ((osAt ws i ++ [(i : Int)]).map V.int))
          rw [List.map_append, Int.zero_add]
          rfl
        · rw [e2]
          show PairsAt _ xs (prAt ws i ++ [])
          rw [List.append_nil]
          exact upd_pairs hO hP
      | lone =>
        refine ⟨rfl, _, rfl, iteF ?_⟩
        refine ⟨_, rfl, _, rfl, a, _, _, _, rfl, rfl, hA, hat, rfl, _, rfl, iteF ?_⟩
        refine ⟨o, xs, _, _, _, rfl, ho, nor, hs, ?_, hR, ?_⟩
        · rw [e1]
          exact hO
        · rw [e2]
          show PairsAt _ xs (prAt ws i ++ [])
          rw [List.append_nil]
          exact hP
      | num k =>
        refine ⟨rfl, _, rfl, iteF ?_⟩
        refine ⟨_, rfl, _, rfl, a, _, _, _, rfl, rfl, hA, hat, rfl, _, rfl, iteT ?_⟩
        -- start = open_ones[walk[point]]
        have hk := os_num hrun hst
        have hat2 : atI ((osAt ws i).map V.int) (k : Int) = some (.int ((osAt ws i).getD k 0)) := atI_nat (by
          rw [List.getElem?_map, List.getElem?_eq_getElem hk, List.getD_eq_getElem?_getD, List.getElem?_eq_getElem hk]
          rfl)
        refine ⟨_, rfl, _, rfl, _, rfl, a, _, _, _, rfl, rfl, hA, hat, o, _, _, _, rfl, rfl, SqL.of hO, hat2, ?_⟩
        -- open_ones = [one for one in open_ones if one != start]
        with_reducible refine gn (sq (asg ?_))
        refine lcL (K := K) (a := o) (xs := (osAt ws i).map V.int) (fun x => !decide (x = .int ((osAt ws i).getD k 0))) id (fun Q q => ⟨_, rfl, q⟩) (SqL.of hO) (by rw [List.length_map]; omega) (fun x => rfl) (fun x hx H1 s1 Q q => ?_) (fun x hx _ H1 s1 Q q => ⟨_, rfl, q⟩) fun p hp => ?_
        · obtain ⟨z, hz, rfl⟩ := List.mem_map.mp hx
          exact ⟨_, rfl, _, rfl, rfl, _, rfl, q⟩
        have nrp : r ≠ p := ne_of_none hR hp
        -- pairs.append((start, point))
        refine ⟨_, rfl, .inl ⟨rfl, _, SqL.of (by rw [upd_ne nrp]; exact hR)⟩, _, rfl, _, rfl, (by show 2 ≤ sizeLine; decide), fun t ht => ?_⟩
        have hpH : H p = none := hs.free hp
        have hR2 : (upd H' p (.lst (((((osAt ws i).map V.int).filter fun x => !decide (x = .int ((osAt ws i).getD k 0))).map id)))) r = some (.lst xs) := by rw [upd_ne nrp]; exact hR
        have nrt : r ≠ t := ne_of_none hR2 ht
        have npt : p ≠ t := ne_of_none upd_same ht
        have hT : H' t = none := by
          rw [upd_ne (Ne.symm npt)] at ht
          exact ht
        refine ⟨r, _, _, rfl, rfl, (by rw [upd_ne nrt]; exact hR2), szl (by rw [paired_length hP]; omega), ?_⟩
        refine ⟨p, _, _, _, _, rfl, hpH, Ne.symm nrp, ?_, ?_, upd_same, ?_⟩
        · exact sm_mut ((hs.trans (sm_new hp)).trans (sm_new ht)) hrH
        · rw [upd_ne (Ne.symm nrp), upd_ne npt, upd_same, List.map_id, e1, List.filter_map]
          show _ = some (HO.lst (((osAt ws i).eraseIdx k).map V.int))
          rw [← filter_ne_eraseIdx _ k (osAt_asc ws i).nodup hk]
          congr 3
          refine List.filter_congr fun x _ => ?_
          show (!decide (V.int x = V.int ((osAt ws i).getD k 0))) = !decide (x = (osAt ws i).getD k 0)
          congr 1
          rw [decide_eq_decide]
          exact ⟨fun z => V.int.inj z, fun z => by rw [z]⟩
        · rw [e2]
          show PairsAt _ _ (prAt ws i ++ [((osAt ws i).getD k 0, (i : Int))])
          refine paired_append (upd_pairs (o := .lst xs) (by rw [upd_ne nrt, upd_ne nrp]; exact hR) ((PairsAt.mono (sm_new hp) hP).mono (sm_new ht))) (.cons ⟨t, rfl, ?_⟩ .nil)
          rw [upd_ne (Ne.symm nrt), upd_same, Int.zero_add]
    · rintro σ H' ⟨o, xs, x3, x4, x5, rfl, ho, nor, hs, hO, hR, hP⟩
      have hA : SqL K H' a (ws.map Stp.v) := hs.seq hS
      have e : (((ws.map Stp.v).length : Int)).toNat = ws.length := by
        rw [List.length_map]
        omega
      rw [e, prAt_all] at hP
      -- return (len(walk), tuple(sorted(pairs)))
      refine ⟨_, rfl, a, _, rfl, .inl hA, _, rfl, r, xs, _, rfl, SqL.of hR, hP, fun ys p hy hperm hp => ?_⟩
      have hlen2 := paired_length hy
      refine ⟨p, ys, rfl, .inl ⟨SqL.of upd_same, fun t ht => ?_⟩⟩
      refine ⟨(by show 2 ≤ sizeLine; decide), fun u hu => ?_⟩
      refine q _ _ (((hs.trans (sm_new hp)).trans (sm_new ht)).trans (sm_new hu)) ⟨u, t, ys, rfl, ?_, ?_, ?_⟩
      · rw [upd_same, List.length_map]
      · rw [upd_ne (ne_of_none upd_same hu), upd_same]
      · exact ((hy.mono (sm_new hp)).mono (sm_new ht)).mono (sm_new hu)
end
end Pg

namespace Pg
open PySem L2
section
variable {P : Program} {w : World} {K : PySem.W.Frag} {mg : Str → Option Value} {base : Heap} {ca : CA}
abbrev s_law : Stmt := topS 22
theorem sc_law : FnScope ["script", "walk", "found", "marks", "e"] ["script"] (defScope s_law) := ⟨rfl, rfl, rfl, by decide +kernel, rfl, by decide +kernel, by decide +kernel⟩
def sp_law (K : PySem.W.Frag) : Sp := fun vs H Q _ => ∃ (a : Addr) (ns : List Int), vs = [.ref a] ∧ SqL K H a (ns.map V.int) ∧ ns.length ≤ 63 ∧ ∀ H', Q (.bl true) H'
theorem ok_law {f : Addr} {fd : FuncData} (T : Txt K mg ca) (F : Fun K "law" "law" s_law f fd) (G_law_spoiled : Known P w K mg base CX0 1 "_law_spoiled" ["walk", "cell"] (sp_law_spoiled K)) (G_law_good : Known P w K mg base CX0 1 "_law_good" ["walk"] (sp_law_good K)) (G_law_drawn : Known P w K mg base CX0 3 "_law_drawn" ["script", "start", "most"] (sp_law_drawn K)) (G_law_cell_at : Known P w K mg base CX0 1 "_law_cell_at" ["script", "k"] (sp_law_cell_at K)) (G_pairing_of : Known P w K mg base (L2.CX P w) 1 "pairing_of" ["walk"] (sp_pairing_of K ca)) (G_law_is_pairing : Known P w K mg base CX0 2 "_law_is_pairing" ["found", "due"] (sp_law_is_pairing K)) (G_law_of_walk : Known P w K mg base CX0 1 "_law_of_walk" ["walk"] (sp_law_of_walk K)) : FnOk P w K mg base CX0 4 f fd ["script"] (sp_law K) := by
  refine F.ok sc_law (fun vs H Q E h => ?_) (fun cdv A outer s H vs Q E hr h => ?_)
  · obtain ⟨_, _, rfl, _⟩ := h
    rfl
  · obtain ⟨a, ns, rfl, hS, hlen, q⟩ := h
    refine ⟨_, (pss_cons (ps_set (i := 1) sc_law.nd rfl (Or.inl rfl) (pe_kc G_law_spoiled (hr.mono (by decide)) (by rfl) pass0 (pa_cons (pe_kc G_law_drawn (hr.mono (by decide)) (by rfl) pass0 (pa_cons (pv 0) (pa_cons pe_int (pa_cons pe_int pa_nil)))) (pa_cons (pe_kc G_law_cell_at (hr.mono (by decide)) (by rfl) pass0 (pa_cons (pv 0) (pa_cons pe_int pa_nil))) pa_nil))))
      (pss_cons (ps_set (i := 2) sc_law.nd rfl (Or.inl rfl) pe_non)
      (pss_cons (ps_set (i := 3) sc_law.nd rfl (Or.inl rfl) (pe_lst pa_nil))
      (Evl.pss_cut (ps_try_as (i := 4) (Wout := fun _ _ _ _ => False) rfl rfl sc_law.nd rfl rfl ⟨rfl, by decide, Or.inl T.g_PairError⟩ takes0
      (fun W pn xe tk _ => (pss_one (ps_set (i := 2) sc_law.nd rfl (Or.inl rfl) (pe_kcS G_pairing_of (hr.mono (by decide)) (by rfl) (fun σ => passAt tk σ) (pa_cons (pe_callTy (callLst K) (by rfl) T.z_list (by decide +kernel) (pa_cons (pv 1) pa_nil)) pa_nil)))))
      (fun a oe cls d pn hz hf => (pss_cons (ps_set (i := 3) sc_law.nd rfl (Or.inl rfl) (pe_lst (pa_cons (pe_callB (call_isE2 K T.ec_NoWalk hz hf) (by rfl) T.z_isinstance (by decide +kernel) (pa_cons (pv 4) (pa_cons (pe_glob (v := .ref ca.NoWalk) rfl T.g_NoWalk rfl) pa_nil))) (pa_cons (pe_callB (call_isE2 K T.ec_NoWalk hz hf) (by rfl) T.z_isinstance (by decide +kernel) (pa_cons (pv 4) (pa_cons (pe_glob (v := .ref ca.NoPairing) rfl T.g_NoPairing rfl) pa_nil))) (pa_cons (pe_callB (call_isE2 K T.ec_NoWalk hz hf) (by rfl) T.z_isinstance (by decide +kernel) (pa_cons (pv 4) (pa_cons (pe_glob (v := .ref ca.NoNumber) rfl T.g_NoNumber rfl) pa_nil))) (pa_cons (pe_callB (call_isE2 K T.ec_NoWalk hz hf) (by rfl) T.z_isinstance (by decide +kernel) (pa_cons (pv 4) (pa_cons (pe_glob (v := .ref ca.TooMany) rfl T.g_TooMany rfl) pa_nil))) pa_nil))))))
      (pss_one (ps_set (i := 3) sc_law.nd rfl (Or.inl rfl) (pe_op op_cat (pv 3) (pe_lst (pa_cons (pe_callB (call_isE2 K T.ec_NoWalk hz hf) (by rfl) T.z_isinstance (by decide +kernel) (pa_cons (pv 4) (pa_cons (pe_glob (v := .ref ca.BadNote) rfl T.g_BadNote rfl) pa_nil))) (pa_cons (pe_callB (call_isE2 K T.ec_NoWalk hz hf) (by rfl) T.z_isinstance (by decide +kernel) (pa_cons (pv 4) (pa_cons (pe_bltn (v := .ty "ValueError") (by rfl) T.z_ValueError (by decide +kernel) rfl) pa_nil))) pa_nil)))))))))
      (pss_cons (ps_if (pt_val (pe_kc G_law_good (hr.mono (by decide)) (by rfl) pass0 (pa_cons (pv 1) pa_nil)))
      (pss_one (ps_ret (pe_and (pe_cmpR (eqD K hr.units) (pv 3) (pe_lst pa_nil) (nomark _)) (pe_one (pe_kc G_law_is_pairing (hr.mono (by decide)) (by rfl) pass0 (pa_cons (pv 2) (pa_cons (pe_kc G_law_of_walk (hr.mono (by decide)) (by rfl) pass0 (pa_cons (pv 1) pa_nil)) pa_nil)))))))
      pss_nil)
      (pss_one (ps_ret (pe_cmpR (eqD K hr.units) (pv 3) (pe_lst (pa_cons pe_bl (pa_cons pe_bl (pa_cons pe_bl (pa_cons pe_bl (pa_cons pe_bl (pa_cons pe_bl pa_nil))))))) (nomark _))))))))), ?_⟩
    refine ⟨_, rfl, a, ns, 0, 12, rfl, hS, by decide, by decide, by decide, fun ws H1 w1 hrun hlw s1 _ hw1 => ?_⟩
    refine ⟨_, rfl, a, ns, 2, rfl, s1.seq hS, by decide, ?_⟩
    refine ⟨w1, _, ws, rfl, hw1, hlw, fun H2 w2 xs s2 _ hw2 his hlx => ?_⟩
    -- found = None; marks = []
    refine ⟨Nat.zero_le _, fun mk hmk => ?_⟩
    have s3 := sm_new (o := .lst []) hmk
    have hw3 := s3 _ _ hw2
    -- the try
    refine ⟨fun σ' H' => ∃ (v : V) (mk : Addr), σ' = [some (.ref a), some (.ref w2), some v, some (.ref mk), none] ∧ H' w2 = some (.lst xs) ∧
      ((∃ ws, WalkOf xs ws ∧ PairingAt H' v (ws.length : Int) (prs ws) ∧ H' mk = some (.lst [])) ∨ ((¬ ∃ ws, WalkOf xs ws) ∧ H' mk = some (.lst ([true, false, false, false, false, true].map V.bl)))), ?_, ?_⟩
    · refine ⟨_, rfl, w2, xs, rfl, .inl (SqL.of hw3), fun l hl => ?_⟩
      have s4 := sm_new (o := .lst xs) hl
      refine ⟨l, xs, rfl, SqL.of upd_same, his, by omega, fun ws hws H5 v s5 hv => ?_, fun hno H5 s5 => ?_⟩
      · exact ⟨v, mk, rfl, s5 _ _ (s4 _ _ hw3), .inl ⟨ws, hws, hv, s5 _ _ (s4 _ _ upd_same)⟩⟩
      · have hm5 : H5 mk = some (.lst []) := s5 _ _ (s4 _ _ upd_same)
        refine ⟨true, T.me_NoWalk, fun _ e he => ?_, fun z => Bool.noConfusion z⟩
        refine ⟨_, rfl, rfl, rfl, _, _, true, rfl, fun u r => r, T.i_NoWalk_NoWalk, _, rfl, rfl, rfl, _, _, false, rfl, fun u r => r, T.i_NoWalk_NoPairing, ?_⟩
        refine ⟨_, rfl, rfl, rfl, _, _, false, rfl, fun u r => r, T.i_NoWalk_NoNumber, _, rfl, rfl, rfl, _, _, false, rfl, fun u r => r, T.i_NoWalk_TooMany, ?_⟩
        refine ⟨by show 4 ≤ sizeLine; decide, fun l1 h1 => ?_⟩
        refine ⟨_, rfl, _, rfl, rfl, rfl, _, _, false, rfl, fun u r => r, T.i_NoWalk_BadNote, _, rfl, rfl, rfl, _, _, true, rfl, fun u r => r, T.i_NoWalk_VE, ?_⟩
        refine ⟨by show 2 ≤ sizeLine; decide, fun l2 h2 => ?_⟩
        have hl1 : (upd H5 l1 (.lst [.bl true, .bl false, .bl false, .bl false])) l1 = some (.lst [.bl true, .bl false, .bl false, .bl false]) := upd_same
        have n12 := ne_of_none hl1 h2
        refine ⟨l1, l2, _, _, rfl, rfl, by rw [upd_ne n12]; exact hl1, upd_same, by show 6 ≤ sizeLine; decide, fun l3 h3 => ?_⟩
        refine ⟨.non, l3, rfl, ?_, .inr ⟨hno, upd_same⟩⟩
        exact (sm_new h3) _ _ ((sm_new h2) _ _ ((sm_new h1) _ _ (s5 _ _ (s4 _ _ hw3))))
    · rintro σ' H' ⟨v, mk, rfl, hw, hm⟩
      refine ⟨_, rfl, w2, xs, rfl, SqL.of hw, his, by omega, fun ws hws => ?_, fun hno => ?_⟩
      · rcases hm with ⟨ws', hws', hv, hm⟩ | ⟨hno, _⟩
        · have e := hws'.uniq hws
          subst e
          refine ⟨_, rfl, iteT ?_⟩
          refine ⟨_, rfl, by show 0 ≤ sizeLine; decide, fun l hl => ?_⟩
          refine ⟨.list (([] : List Bool).map PyData.bool), .list (([] : List Bool).map PyData.bool), .lst (SqL.of (sm_new hl _ _ hm)) (bools_dp []), .lst (SqL.of upd_same) (bools_dp []), (shp_bools _).shaped, (shp_bools _).shaped, _, rfl, ?_⟩
          rw [(shp_bools _).refl]
          refine iteT ?_
          have sl := sm_new (o := .lst []) hl
          refine ⟨_, rfl, _, rfl, w2, ws', 0, rfl, by rw [← hws'.eq]; exact SqL.of (sl _ _ hw), hws'.run, by have := hws'.len; omega, fun H6 u s6 hu => ?_⟩
          exact ⟨v, u, _, _, rfl, (hv.mono sl).mono s6, hu, q _⟩
        · exact absurd ⟨ws, hws⟩ hno
      · rcases hm with ⟨ws', hws', _⟩ | ⟨_, hm⟩
        · exact absurd ⟨ws', hws'⟩ hno
        · refine ⟨_, rfl, iteF ?_⟩
          refine ⟨_, rfl, by show 6 ≤ sizeLine; decide, fun l4 h4 => ?_⟩
          refine ⟨.list ([true, false, false, false, false, true].map PyData.bool), .list ([true, false, false, false, false, true].map PyData.bool), .lst (SqL.of (sm_new h4 _ _ hm)) (bools_dp [true, false, false, false, false, true]), .lst (SqL.of upd_same) (bools_dp [true, false, false, false, false, true]), (shp_bools _).shaped, (shp_bools _).shaped, ?_⟩
          rw [(shp_bools _).refl]
          exact q _
end
end Pg

namespace Pg
open PySem L2
theorem def_mk {K : PySem.W.Frag} {mg : Str → Option Value} {h : Heap} (X : K.In h) (G : h.Ns mainGlobals mg) {x : Str} {st : Stmt} {ps : List Str} {f : Addr} {oc : Value} {od an : Option Addr} {osl : Array (Option Value)} {kV doc pm cdv ct : Value}
    (a : PySem.W.nsIn K mainGlobals x = some (some (.ref f))) (l : K.lookup f = some ⟨oc, od, .func (PySem.W.fnOf x x (defArgs st) (defBody st) (defScope st) .none kV doc pm an cdv ct), osl⟩) (c : PySem.W.codeIn K cdv x = true) (k : PySem.W.keepIn K (.ref f) = true)
    (b : ∀ (kV doc pm : Value) (an : Option Addr) (cdv ct : Value) (us : List Value), us.length = ps.length → bindArgs (PySem.W.fnOf x x (defArgs st) (defBody st) (defScope st) .none kV doc pm an cdv ct) ⟨us, []⟩ = pure (ps.zip us)) : Def K mg x ps st :=
  ⟨f, _, PySem.W.mg_of X G a, (fun_mk l c k).binds b, fun_mk l c k⟩
theorem all_mk {l : PySem.W.OpenLaw} {w : World} {K : PySem.W.Frag} {h : Heap} {mg : Str → Option Value} {fa f0 f1 f2 f3 f4 f5 f6 f7 f8 f9 f10 f11 C_PairError C_NoPairing C_NoWalk C_NoNumber C_TooMany C_BadNote : Addr} {od0 an0 : Option Addr} {sl0 : Array (Option Value)} {oc0 kV0 dc0 pm0 cd0 ct0 : Value} {od1 an1 : Option Addr} {sl1 : Array (Option Value)} {oc1 kV1 dc1 pm1 cd1 ct1 : Value} {od2 an2 : Option Addr} {sl2 : Array (Option Value)} {oc2 kV2 dc2 pm2 cd2 ct2 : Value} {od3 an3 : Option Addr} {sl3 : Array (Option Value)} {oc3 kV3 dc3 pm3 cd3 ct3 : Value} {od4 an4 : Option Addr} {sl4 : Array (Option Value)} {oc4 kV4 dc4 pm4 cd4 ct4 : Value} {od5 an5 : Option Addr} {sl5 : Array (Option Value)} {oc5 kV5 dc5 pm5 cd5 ct5 : Value} {od6 an6 : Option Addr} {sl6 : Array (Option Value)} {oc6 kV6 dc6 pm6 cd6 ct6 : Value} {od7 an7 : Option Addr} {sl7 : Array (Option Value)} {oc7 kV7 dc7 pm7 cd7 ct7 : Value} {od8 an8 : Option Addr} {sl8 : Array (Option Value)} {oc8 kV8 dc8 pm8 cd8 ct8 : Value} {od9 an9 : Option Addr} {sl9 : Array (Option Value)} {oc9 kV9 dc9 pm9 cd9 ct9 : Value} {od10 an10 : Option Addr} {sl10 : Array (Option Value)} {oc10 kV10 dc10 pm10 cd10 ct10 : Value} {od11 an11 : Option Addr} {sl11 : Array (Option Value)} {oc11 kV11 dc11 pm11 cd11 ct11 : Value} {t_MOST : Tok} (X : K.In h) (G : h.Ns mainGlobals mg) (hfa : mg "law" = some (.ref fa))
    (a0 : PySem.W.nsIn K mainGlobals "_law_spoiled" = some (some (.ref f0))) (l0 : K.lookup f0 = some ⟨oc0, od0, .func (PySem.W.fnOf "_law_spoiled" "_law_spoiled" (defArgs s_law_spoiled) (defBody s_law_spoiled) (defScope s_law_spoiled) .none kV0 dc0 pm0 an0 cd0 ct0), sl0⟩) (c0 : PySem.W.codeIn K cd0 "_law_spoiled" = true) (k0 : PySem.W.keepIn K (.ref f0) = true)
    (a1 : PySem.W.nsIn K mainGlobals "_law_good" = some (some (.ref f1))) (l1 : K.lookup f1 = some ⟨oc1, od1, .func (PySem.W.fnOf "_law_good" "_law_good" (defArgs s_law_good) (defBody s_law_good) (defScope s_law_good) .none kV1 dc1 pm1 an1 cd1 ct1), sl1⟩) (c1 : PySem.W.codeIn K cd1 "_law_good" = true) (k1 : PySem.W.keepIn K (.ref f1) = true)
    (a2 : PySem.W.nsIn K mainGlobals "_law_cell_at" = some (some (.ref f2))) (l2 : K.lookup f2 = some ⟨oc2, od2, .func (PySem.W.fnOf "_law_cell_at" "_law_cell_at" (defArgs s_law_cell_at) (defBody s_law_cell_at) (defScope s_law_cell_at) .none kV2 dc2 pm2 an2 cd2 ct2), sl2⟩) (c2 : PySem.W.codeIn K cd2 "_law_cell_at" = true) (k2 : PySem.W.keepIn K (.ref f2) = true)
    (a3 : PySem.W.nsIn K mainGlobals "_law_choice" = some (some (.ref f3))) (l3 : K.lookup f3 = some ⟨oc3, od3, .func (PySem.W.fnOf "_law_choice" "_law_choice" (defArgs s_law_choice) (defBody s_law_choice) (defScope s_law_choice) .none kV3 dc3 pm3 an3 cd3 ct3), sl3⟩) (c3 : PySem.W.codeIn K cd3 "_law_choice" = true) (k3 : PySem.W.keepIn K (.ref f3) = true)
    (a4 : PySem.W.nsIn K mainGlobals "_law_walk" = some (some (.ref f4))) (l4 : K.lookup f4 = some ⟨oc4, od4, .func (PySem.W.fnOf "_law_walk" "_law_walk" (defArgs s_law_walk) (defBody s_law_walk) (defScope s_law_walk) .none kV4 dc4 pm4 an4 cd4 ct4), sl4⟩) (c4 : PySem.W.codeIn K cd4 "_law_walk" = true) (k4 : PySem.W.keepIn K (.ref f4) = true)
    (a5 : PySem.W.nsIn K mainGlobals "_law_points" = some (some (.ref f5))) (l5 : K.lookup f5 = some ⟨oc5, od5, .func (PySem.W.fnOf "_law_points" "_law_points" (defArgs s_law_points) (defBody s_law_points) (defScope s_law_points) .none kV5 dc5 pm5 an5 cd5 ct5), sl5⟩) (c5 : PySem.W.codeIn K cd5 "_law_points" = true) (k5 : PySem.W.keepIn K (.ref f5) = true)
    (a6 : PySem.W.nsIn K mainGlobals "_law_drawn" = some (some (.ref f6))) (l6 : K.lookup f6 = some ⟨oc6, od6, .func (PySem.W.fnOf "_law_drawn" "_law_drawn" (defArgs s_law_drawn) (defBody s_law_drawn) (defScope s_law_drawn) .none kV6 dc6 pm6 an6 cd6 ct6), sl6⟩) (c6 : PySem.W.codeIn K cd6 "_law_drawn" = true) (k6 : PySem.W.keepIn K (.ref f6) = true)
    (a7 : PySem.W.nsIn K mainGlobals "pairing_of" = some (some (.ref f7))) (l7 : K.lookup f7 = some ⟨oc7, od7, .func (PySem.W.fnOf "pairing_of" "pairing_of" (defArgs s_pairing_of) (defBody s_pairing_of) (defScope s_pairing_of) .none kV7 dc7 pm7 an7 cd7 ct7), sl7⟩) (c7 : PySem.W.codeIn K cd7 "pairing_of" = true) (k7 : PySem.W.keepIn K (.ref f7) = true)
    (a8 : PySem.W.nsIn K mainGlobals "_law_whole" = some (some (.ref f8))) (l8 : K.lookup f8 = some ⟨oc8, od8, .func (PySem.W.fnOf "_law_whole" "_law_whole" (defArgs s_law_whole) (defBody s_law_whole) (defScope s_law_whole) .none kV8 dc8 pm8 an8 cd8 ct8), sl8⟩) (c8 : PySem.W.codeIn K cd8 "_law_whole" = true) (k8 : PySem.W.keepIn K (.ref f8) = true)
    (a9 : PySem.W.nsIn K mainGlobals "_law_is_pairing" = some (some (.ref f9))) (l9 : K.lookup f9 = some ⟨oc9, od9, .func (PySem.W.fnOf "_law_is_pairing" "_law_is_pairing" (defArgs s_law_is_pairing) (defBody s_law_is_pairing) (defScope s_law_is_pairing) .none kV9 dc9 pm9 an9 cd9 ct9), sl9⟩) (c9 : PySem.W.codeIn K cd9 "_law_is_pairing" = true) (k9 : PySem.W.keepIn K (.ref f9) = true)
    (a10 : PySem.W.nsIn K mainGlobals "_law_of_walk" = some (some (.ref f10))) (l10 : K.lookup f10 = some ⟨oc10, od10, .func (PySem.W.fnOf "_law_of_walk" "_law_of_walk" (defArgs s_law_of_walk) (defBody s_law_of_walk) (defScope s_law_of_walk) .none kV10 dc10 pm10 an10 cd10 ct10), sl10⟩) (c10 : PySem.W.codeIn K cd10 "_law_of_walk" = true) (k10 : PySem.W.keepIn K (.ref f10) = true)
    (a11 : PySem.W.nsIn K mainGlobals "law" = some (some (.ref f11))) (l11 : K.lookup f11 = some ⟨oc11, od11, .func (PySem.W.fnOf "law" "law" (defArgs s_law) (defBody s_law) (defScope s_law) .none kV11 dc11 pm11 an11 cd11 ct11), sl11⟩) (c11 : PySem.W.codeIn K cd11 "law" = true) (k11 : PySem.W.keepIn K (.ref f11) = true)
    (z_ValueError : PySem.W.nsIn K mainGlobals "ValueError" = some none)
    (z_bool : PySem.W.nsIn K mainGlobals "bool" = some none)
    (z_int : PySem.W.nsIn K mainGlobals "int" = some none)
    (z_isinstance : PySem.W.nsIn K mainGlobals "isinstance" = some none)
    (z_len : PySem.W.nsIn K mainGlobals "len" = some none)
    (z_list : PySem.W.nsIn K mainGlobals "list" = some none)
    (z_range : PySem.W.nsIn K mainGlobals "range" = some none)
    (z_sorted : PySem.W.nsIn K mainGlobals "sorted" = some none)
    (z_str : PySem.W.nsIn K mainGlobals "str" = some none)
    (z_tuple : PySem.W.nsIn K mainGlobals "tuple" = some none)
    (g_MOST : PySem.W.nsIn K mainGlobals "MOST" = some (some (.int 60 t_MOST)))
    (g_PairError : PySem.W.nsIn K mainGlobals "PairError" = some (some (.ref C_PairError)))
    (g_NoPairing : PySem.W.nsIn K mainGlobals "NoPairing" = some (some (.ref C_NoPairing)))
    (g_NoWalk : PySem.W.nsIn K mainGlobals "NoWalk" = some (some (.ref C_NoWalk)))
    (g_NoNumber : PySem.W.nsIn K mainGlobals "NoNumber" = some (some (.ref C_NoNumber)))
    (g_TooMany : PySem.W.nsIn K mainGlobals "TooMany" = some (some (.ref C_TooMany)))
    (g_BadNote : PySem.W.nsIn K mainGlobals "BadNote" = some (some (.ref C_BadNote)))
    (x_NoWalk : PySem.W.excIn K C_NoWalk [.type "ValueError", .type "Exception", .type "BaseException", .type "object"] "ValueError.__new__" = true)
    (k_NoWalk : PySem.W.keepIn K (.ref C_NoWalk) = true)
    (b_NoWalk : PySem.W.subIn K (.ref C_NoWalk) (.type "BaseException") = some true)
    (t_NoWalk : PySem.W.typeIn K (.ref C_NoWalk) = some (.type "type"))
    (b_PairError : PySem.W.subIn K (.ref C_PairError) (.type "BaseException") = some true)
    (d_PairError : PySem.W.hasDictIn K C_PairError = true)
    (t_PairError : PySem.W.typeIn K (.ref C_PairError) = some (.type "type"))
    (d_NoWalk : PySem.W.hasDictIn K C_NoWalk = true)
    (s_NoWalk_PairError : PySem.W.subIn K (.ref C_NoWalk) (.ref C_PairError) = some true)
    (e1_NoWalk : PySem.W.findIn K (.ref C_NoWalk) "__getattribute__" = some (some (.builtin "BaseException.__getattribute__")))
    (e2_NoWalk : PySem.W.findIn K (.ref C_NoWalk) "__getattr__" = some none)
    (e5_NoWalk : PySem.W.findIn K (.ref C_NoWalk) "__class__" = some (some (.builtin "object.__class__")))
    (e6_NoWalk : PySem.W.specialIn K (.builtin "object.__class__") "__get__" = some (some (.builtin "getset_descriptor.__get__")))
    (e7_NoWalk : PySem.W.takesIn K (.builtin "object.__class__") = some true)
    (e8_NoWalk : PySem.W.mroIn K C_NoWalk (.type "object") = some true)
    (s_NoWalk_NoWalk : PySem.W.subIn K (.ref C_NoWalk) (.ref C_NoWalk) = some true)
    (d_NoPairing : PySem.W.hasDictIn K C_NoPairing = true)
    (t_NoPairing : PySem.W.typeIn K (.ref C_NoPairing) = some (.type "type"))
    (s_NoWalk_NoPairing : PySem.W.subIn K (.ref C_NoWalk) (.ref C_NoPairing) = some false)
    (d_NoNumber : PySem.W.hasDictIn K C_NoNumber = true)
    (t_NoNumber : PySem.W.typeIn K (.ref C_NoNumber) = some (.type "type"))
    (s_NoWalk_NoNumber : PySem.W.subIn K (.ref C_NoWalk) (.ref C_NoNumber) = some false)
    (d_TooMany : PySem.W.hasDictIn K C_TooMany = true)
    (t_TooMany : PySem.W.typeIn K (.ref C_TooMany) = some (.type "type"))
    (s_NoWalk_TooMany : PySem.W.subIn K (.ref C_NoWalk) (.ref C_TooMany) = some false)
    (d_BadNote : PySem.W.hasDictIn K C_BadNote = true)
    (t_BadNote : PySem.W.typeIn K (.ref C_BadNote) = some (.type "type"))
    (s_NoWalk_BadNote : PySem.W.subIn K (.ref C_NoWalk) (.ref C_BadNote) = some false)
    (v_NoWalk : PySem.W.subIn K (.ref C_NoWalk) (.type "ValueError") = some true) :
    ∃ fd : FuncData, (∀ (s : Shared) (v : Value), BindsTo s fd ⟨[v], []⟩ [("script", v)]) ∧ ∀ base : Heap, K.In base → base.Ns mainGlobals mg → FnOk l.prog w K mg base CX0 4 fa fd ["script"] (sp_law K) := by
  have e := hfa.symm.trans (PySem.W.mg_of X G a11)
  cases e
  have D_law_spoiled : Def K mg "_law_spoiled" ["walk", "cell"] s_law_spoiled := def_mk X G a0 l0 c0 k0 fun _ _ _ _ _ _ us hl => match us, hl with | [_, _], _ => rfl
  have D_law_good : Def K mg "_law_good" ["walk"] s_law_good := def_mk X G a1 l1 c1 k1 fun _ _ _ _ _ _ us hl => match us, hl with | [_], _ => rfl
  have D_law_cell_at : Def K mg "_law_cell_at" ["script", "k"] s_law_cell_at := def_mk X G a2 l2 c2 k2 fun _ _ _ _ _ _ us hl => match us, hl with | [_, _], _ => rfl
  have D_law_choice : Def K mg "_law_choice" ["state", "many"] s_law_choice := def_mk X G a3 l3 c3 k3 fun _ _ _ _ _ _ us hl => match us, hl with | [_, _], _ => rfl
  have D_law_walk : Def K mg "_law_walk" ["cell", "points", "plain"] s_law_walk := def_mk X G a4 l4 c4 k4 fun _ _ _ _ _ _ us hl => match us, hl with | [_, _, _], _ => rfl
  have D_law_points : Def K mg "_law_points" ["cell", "most"] s_law_points := def_mk X G a5 l5 c5 k5 fun _ _ _ _ _ _ us hl => match us, hl with | [_, _], _ => rfl
  have D_law_drawn : Def K mg "_law_drawn" ["script", "start", "most"] s_law_drawn := def_mk X G a6 l6 c6 k6 fun _ _ _ _ _ _ us hl => match us, hl with | [_, _, _], _ => rfl
  have D_pairing_of : Def K mg "pairing_of" ["walk"] s_pairing_of := def_mk X G a7 l7 c7 k7 fun _ _ _ _ _ _ us hl => match us, hl with | [_], _ => rfl
  have D_law_whole : Def K mg "_law_whole" ["found"] s_law_whole := def_mk X G a8 l8 c8 k8 fun _ _ _ _ _ _ us hl => match us, hl with | [_], _ => rfl
  have D_law_is_pairing : Def K mg "_law_is_pairing" ["found", "due"] s_law_is_pairing := def_mk X G a9 l9 c9 k9 fun _ _ _ _ _ _ us hl => match us, hl with | [_, _], _ => rfl
  have D_law_of_walk : Def K mg "_law_of_walk" ["walk"] s_law_of_walk := def_mk X G a10 l10 c10 k10 fun _ _ _ _ _ _ us hl => match us, hl with | [_], _ => rfl
  have D_law : Def K mg "law" ["script"] s_law := def_mk X G a11 l11 c11 k11 fun _ _ _ _ _ _ us hl => match us, hl with | [_], _ => rfl
  have T : Txt K mg ⟨C_PairError, C_NoPairing, C_NoWalk, C_NoNumber, C_TooMany, C_BadNote⟩ := ⟨PySem.W.mg_none_of X G z_ValueError, PySem.W.mg_none_of X G z_bool, PySem.W.mg_none_of X G z_int, PySem.W.mg_none_of X G z_isinstance, PySem.W.mg_none_of X G z_len, PySem.W.mg_none_of X G z_list, PySem.W.mg_none_of X G z_range, PySem.W.mg_none_of X G z_sorted, PySem.W.mg_none_of X G z_str, PySem.W.mg_none_of X G z_tuple, ⟨_, PySem.W.mg_of X G g_MOST⟩, PySem.W.mg_of X G g_PairError, PySem.W.mg_of X G g_NoPairing, PySem.W.mg_of X G g_NoWalk, PySem.W.mg_of X G g_NoNumber, PySem.W.mg_of X G g_TooMany, PySem.W.mg_of X G g_BadNote, x_NoWalk, k_NoWalk, b_NoWalk, t_NoWalk, (PySem.W.exm_ref b_PairError d_PairError t_PairError s_NoWalk_PairError), ⟨e1_NoWalk, e2_NoWalk, b_NoWalk, d_NoWalk, e5_NoWalk, e6_NoWalk, e7_NoWalk, e8_NoWalk⟩, (kit_own s_NoWalk_NoWalk d_NoPairing t_NoPairing s_NoWalk_NoPairing), (kit_own s_NoWalk_NoWalk d_NoWalk t_NoWalk s_NoWalk_NoWalk), (kit_own s_NoWalk_NoWalk d_NoNumber t_NoNumber s_NoWalk_NoNumber), (kit_own s_NoWalk_NoWalk d_TooMany t_TooMany s_NoWalk_TooMany), (kit_own s_NoWalk_NoWalk d_BadNote t_BadNote s_NoWalk_BadNote), (kit_ve v_NoWalk)⟩
  refine ⟨PySem.W.fnOf "law" "law" (defArgs s_law) (defBody s_law) (defScope s_law) .none kV11 dc11 pm11 an11 cd11 ct11, fun s v => .of_eq rfl, fun base _ _ => ?_⟩
  have G_law_spoiled := ok_law_spoiled (P := l.prog) (w := w) (base := base) T D_law_spoiled
  have G_law_good := ok_law_good (P := l.prog) (w := w) (base := base) T D_law_good
  have G_law_cell_at := ok_law_cell_at (P := l.prog) (w := w) (base := base) T D_law_cell_at
  have G_law_choice := ok_law_choice (P := l.prog) (w := w) (base := base) T D_law_choice
  have G_law_walk := ok_law_walk (P := l.prog) (w := w) (base := base) T D_law_walk G_law_choice
  have G_law_points := ok_law_points (P := l.prog) (w := w) (base := base) T D_law_points
  have G_law_drawn := ok_law_drawn (P := l.prog) (w := w) (base := base) T D_law_drawn G_law_cell_at G_law_walk G_law_points
  have G_pairing_of := ok_pairing_of (P := l.prog) (w := w) (base := base) T D_pairing_of
  have G_law_whole := ok_law_whole (P := l.prog) (w := w) (base := base) T D_law_whole
  have G_law_is_pairing := ok_law_is_pairing (P := l.prog) (w := w) (base := base) T D_law_is_pairing G_law_whole
  have G_law_of_walk := ok_law_of_walk (P := l.prog) (w := w) (base := base) T D_law_of_walk
  exact ok_law T (fun_mk (st := s_law) l11 c11 k11) G_law_spoiled G_law_good G_law_drawn G_law_cell_at G_pairing_of G_law_is_pairing G_law_of_walk
end Pg

open PySem PySem.W PyProof.Rows
set_option maxRecDepth 100000 in
set_option maxHeartbeats 0 in
theorem PySem.Challenge.cw_pairlings_k05_lists_that_are_no_walks_holds : PySem.Challenge.rw_pairlings_k05_lists_that_are_no_walks.Holds := by
  w_on; o_law; k_head; (case hw => w_witness2)
  k_fill
  refine L2.walk_of (l := PySem.Challenge.rw_pairlings_k05_lists_that_are_no_walks) (n := 63) (k := 4) (x := "script") (CX := fun _ => L2.CX0) (sp := fun w => Pg.sp_law _) rfl (by decide) rfl ⟨rfl, by decide, by decide⟩ (fun w h Y => PySem.W.kIn_of Y) ?F (fun _ _ a ns hl _ hS => ⟨a, ns, rfl, hS, hl, fun _ => rfl⟩) (fun _ _ _ _ _ h => h)
  case F =>
    intro w mg fa h KX G hmg
    refine' Pg.all_mk KX G hmg ?a0 ?l0 ?c0 ?k0 ?a1 ?l1 ?c1 ?k1 ?a2 ?l2 ?c2 ?k2 ?a3 ?l3 ?c3 ?k3 ?a4 ?l4 ?c4 ?k4 ?a5 ?l5 ?c5 ?k5 ?a6 ?l6 ?c6 ?k6 ?a7 ?l7 ?c7 ?k7 ?a8 ?l8 ?c8 ?k8 ?a9 ?l9 ?c9 ?k9 ?a10 ?l10 ?c10 ?k10 ?a11 ?l11 ?c11 ?k11 ?z_ValueError ?z_bool ?z_int ?z_isinstance ?z_len ?z_list ?z_range ?z_sorted ?z_str ?z_tuple ?g_MOST ?g_PairError ?g_NoPairing ?g_NoWalk ?g_NoNumber ?g_TooMany ?g_BadNote ?x_NoWalk ?k_NoWalk ?b_NoWalk ?t_NoWalk ?b_PairError ?d_PairError ?t_PairError ?d_NoWalk ?s_NoWalk_PairError ?e1_NoWalk ?e2_NoWalk ?e5_NoWalk ?e6_NoWalk ?e7_NoWalk ?e8_NoWalk ?s_NoWalk_NoWalk ?d_NoPairing ?t_NoPairing ?s_NoWalk_NoPairing ?d_NoNumber ?t_NoNumber ?s_NoWalk_NoNumber ?d_TooMany ?t_TooMany ?s_NoWalk_TooMany ?d_BadNote ?t_BadNote ?s_NoWalk_BadNote ?v_NoWalk
    (case a0 => k_is)
    (case l0 => k_is)
    (case c0 => k_is)
    (case k0 => k_is)
    (case a1 => k_is)
    (case l1 => k_is)
    (case c1 => k_is)
    (case k1 => k_is)
    (case a2 => k_is)
    (case l2 => k_is)
    (case c2 => k_is)
    (case k2 => k_is)
    (case a3 => k_is)
    (case l3 => k_is)
    (case c3 => k_is)
    (case k3 => k_is)
    (case a4 => k_is)
    (case l4 => k_is)
    (case c4 => k_is)
    (case k4 => k_is)
    (case a5 => k_is)
    (case l5 => k_is)
    (case c5 => k_is)
    (case k5 => k_is)
    (case a6 => k_is)
    (case l6 => k_is)
    (case c6 => k_is)
    (case k6 => k_is)
    (case a7 => k_is)
    (case l7 => k_is)
    (case c7 => k_is)
    (case k7 => k_is)
    (case a8 => k_is)
    (case l8 => k_is)
    (case c8 => k_is)
    (case k8 => k_is)
    (case a9 => k_is)
    (case l9 => k_is)
    (case c9 => k_is)
    (case k9 => k_is)
    (case a10 => k_is)
    (case l10 => k_is)
    (case c10 => k_is)
    (case k10 => k_is)
    (case a11 => k_is)
    (case l11 => k_is)
    (case c11 => k_is)
    (case k11 => k_is)
    (case z_ValueError => k_is)
    (case z_bool => k_is)
    (case z_int => k_is)
    (case z_isinstance => k_is)
    (case z_len => k_is)
    (case z_list => k_is)
    (case z_range => k_is)
    (case z_sorted => k_is)
    (case z_str => k_is)
    (case z_tuple => k_is)
    (case g_MOST => k_is)
    (case g_PairError => k_is)
    (case g_NoPairing => k_is)
    (case g_NoWalk => k_is)
    (case g_NoNumber => k_is)
    (case g_TooMany => k_is)
    (case g_BadNote => k_is)
    (case x_NoWalk => k_exc)
    (case k_NoWalk => k_is)
    (case b_NoWalk => k_is)
    (case t_NoWalk => k_is)
    (case b_PairError => k_is)
    (case d_PairError => k_is)
    (case t_PairError => k_is)
    (case d_NoWalk => k_is)
    (case s_NoWalk_PairError => k_is)
    (case e1_NoWalk => k_is)
    (case e2_NoWalk => k_is)
    (case e5_NoWalk => k_is)
    (case e6_NoWalk => k_is)
    (case e7_NoWalk => k_is)
    (case e8_NoWalk => k_is)
    (case s_NoWalk_NoWalk => k_is)
    (case d_NoPairing => k_is)
    (case t_NoPairing => k_is)
    (case s_NoWalk_NoPairing => k_is)
    (case d_NoNumber => k_is)
    (case t_NoNumber => k_is)
    (case s_NoWalk_NoNumber => k_is)
    (case d_TooMany => k_is)
    (case t_TooMany => k_is)
    (case s_NoWalk_TooMany => k_is)
    (case d_BadNote => k_is)
    (case t_BadNote => k_is)
    (case s_NoWalk_BadNote => k_is)
    (case v_NoWalk => k_is)
