import PyProof.Rows.All
import Wide.All
import OpenK.AllK
import Wide.FinOn
import HandS.ForMost
import HandS.ForExc
import HandS.Conv
import HandS.SortRule
import HandS.IsInst
import HandS.Evl
import HandS.SetFor
import HandS.SortInts
import HandS.Deep
import PySem.Challenge.RW_pairlings_k11_whole_one_by_one
set_option Elab.async false
set_option linter.all false
set_option maxRecDepth 100000
set_option maxHeartbeats 4000000
namespace Pg
open PySem L2
/-! ### a def that stands at a module's name and keeps its promise -/
structure Known (P : Program) (w : World) (K : PySem.W.Frag) (mg : Str → Option Value) (base : Heap) (CX : CXT) (k : Nat) (x : Str) (ps : List Str) (sp : Sp) : Prop where
  ex : ∃ (f : Addr) (fd : FuncData), mg x = some (.ref f) ∧ PySem.W.keepIn K (.ref f) = true ∧ Binds K fd ps [] ∧ FnOk P w K mg base CX k f fd ps sp
/-- what the top has left of a def: where it stands, its text, how it binds -/
structure Def (K : PySem.W.Frag) (mg : Str → Option Value) (x : Str) (ps : List Str) (st : Stmt) : Prop where
  ex : ∃ (f : Addr) (fd : FuncData), mg x = some (.ref f) ∧ Binds K fd ps [] ∧ Fun K x x st f fd
theorem Def.known {P : Program} {w : World} {K : PySem.W.Frag} {mg : Str → Option Value} {base : Heap} {CX : CXT} {k : Nat} {x : Str} {ps : List Str} {st : Stmt} {sp : Sp} (D : Def K mg x ps st)
    (h : ∀ f fd, Fun K x x st f fd → FnOk P w K mg base CX k f fd ps sp) : Known P w K mg base CX k x ps sp := by
  obtain ⟨f, fd, hm, hb, F⟩ := D.ex
  exact ⟨f, fd, hm, F.kp, hb, h f fd F⟩
/-- f(e, ..) -/
def tCl (sp : Sp) (E : XK) (t : TA) : TE := fun σ H Q => t σ H fun vs H1 => sp vs H1 Q E
theorem pe_kc {X : Cx} {CX : CXT} {k : Nat} {x : Str} {ps : List Str} {sp : Sp} {E : XK} {t : TA} {e : Expr} {es : List Expr} {p pos : Pos} (G : Known X.prog X.w X.K X.mg X.base CX k x ps sp) (hr : Room k X.A) (hg : Gl X x) (hx : Passes CX X E)
    (ha : PA X (e :: es) t) (hdb : (x == ("__debug__" : Str)) = false := by decide) (he : starEach (e :: es) X.env = (false, eval e X.env) :: starEach es X.env := by rfl) (hpl : (backTo pos (starEach es X.env)).any (·.1) = false := by rfl) :
    PE X (.Call (.Name x p) (e :: es) [] pos) (tCl sp E t) := by
  obtain ⟨f, fd, hm, hk, hb, F⟩ := G.ex
  have h : PE X (.Call (.Name x p) (e :: es) [] pos) (tCall sp [] E t) := pe_call (dvs := []) (ds := []) F hr hg hm hk hb Paired.nil hx ha hdb he hpl
  refine ⟨fun pins s σ H Q I q => h.run pins s σ H Q I ?_⟩
  have e : (fun (vs : List V) (H1 : Hp) => sp (vs ++ []) H1 Q E) = fun vs H1 => sp vs H1 Q E := funext fun vs => by rw [List.append_nil]
  show t σ H (fun (vs : List V) (H1 : Hp) => sp (vs ++ []) H1 Q E)
  rw [e]
  exact q
/-! ### heaps -/
theorem sm_new {H : Hp} {p : Addr} {o : HO} (h : H p = none) : Same H (upd H p o) := fun b x e => by
  rw [upd_ne (ne_of_none e h)]
  exact e
/-- an object that H does not know may change -/
theorem sm_mut {H H' : Hp} {p : Addr} {o : HO} (e : Same H H') (h : H p = none) : Same H (upd H' p o) := fun a u ha => by
  rw [upd_ne (ne_of_none ha h)]
  exact e a u ha
theorem sm_seqT {K : PySem.W.Frag} {H H' : Hp} {a : Addr} {xs : List V} (e : Same H H') (h : SqT K H a xs) : SqT K H' a xs := by
  rcases h with (h | ⟨o, h⟩) | h
  · exact .inl (.inl (e _ _ h))
  · exact .inl (.inr ⟨o, e _ _ h⟩)
  · exact .inr h
theorem cut_from (xs : List V) (i : Int) (h : 0 ≤ i) : cutV xs (some i) none = xs.drop i.toNat := by
  unfold cutV
  obtain ⟨n, rfl⟩ : ∃ n : Nat, i = (n : Int) := ⟨i.toNat, by omega⟩
  rw [show HT.sIx xs.length 0 (some (n : Int)) = min n xs.length from HT.sIx_nat xs.length 0 n, HT.sIx_none]
  have e : ((n : Int)).toNat = n := by omega
  rw [e]
  by_cases c : n ≤ xs.length
  · rw [Nat.min_eq_left c]
    exact List.take_of_length_le (by rw [List.length_drop]; exact Nat.le_refl _)
  · rw [Nat.min_eq_right (by omega), List.drop_of_length_le (show xs.length ≤ n by omega), List.drop_of_length_le (Nat.le_refl _), List.take_nil]
theorem cut_to (xs : List V) (i : Int) (h : 0 ≤ i) : cutV xs none (some i) = xs.take i.toNat := by
  unfold cutV
  obtain ⟨n, rfl⟩ : ∃ n : Nat, i = (n : Int) := ⟨i.toNat, by omega⟩
  rw [show HT.sIx xs.length xs.length (some (n : Int)) = min n xs.length from HT.sIx_nat xs.length xs.length n, HT.sIx_none]
  have e : ((n : Int)).toNat = n := by omega
  rw [e, List.drop_zero, Nat.sub_zero]
  by_cases c : n ≤ xs.length
  · rw [Nat.min_eq_left c]
  · rw [Nat.min_eq_right (by omega), List.take_of_length_le (Nat.le_refl _), List.take_of_length_le (by omega)]
theorem dint {i j : Int} : decide (V.int i = V.int j) = decide (i = j) := by
  rw [decide_eq_decide]
  exact ⟨fun e => V.int.inj e, fun e => by rw [e]⟩
theorem dstr {i j : Str} : decide (V.str i = V.str j) = decide (i = j) := by
  rw [decide_eq_decide]
  exact ⟨fun e => V.str.inj e, fun e => by rw [e]⟩
theorem filt_all {α : Type} (l : List α) : l.filter (fun _ => true) = l := List.filter_eq_self.mpr fun _ _ => rfl
theorem sz {n : Nat} (h : n ≤ 100000) : n ≤ sizeLine := Nat.le_trans h (by decide)
theorem szl {n : Nat} (h : n < 100000) : n < sizeLine := Nat.lt_of_lt_of_le h (by decide)
theorem ixn {n : Nat} {i : Int} {j : Nat} (e : i = (j : Int)) (hj : j < n) : ixN n i = some j := by
  rw [e]
  exact Evl.ixN_nat hj
/-! ### rules with the written part said -/
section
variable {X : Cx}
theorem ixL (K : PySem.W.Frag) (e : X.K = K := by rfl) : IxR X (rIxL K) := e ▸ ix_list
theorem ixT (K : PySem.W.Frag) (e : X.K = K := by rfl) : IxR X (rIxT K) := e ▸ ix_tup
theorem slL (K : PySem.W.Frag) (e : X.K = K := by rfl) : SlR X (rSlL K) := e ▸ sl_list
theorem slT (K : PySem.W.Frag) (e : X.K = K := by rfl) : SlR X (rSlT K) := e ▸ sl_tup
def rLen (K : PySem.W.Frag) : List V → Hp → VK → Prop := fun xs H Q => ∃ p ys, xs = [.ref p] ∧ (SqL K H p ys ∨ SqT K H p ys) ∧ Q (.int ys.length) H
theorem callLen (K : PySem.W.Frag) (e : X.K = K := by rfl) : CallR X (.builtin "len") (rLen K) := e ▸ call_len_seq
def rLstOf (K : PySem.W.Frag) : List V → Hp → VK → Prop := fun xs H Q => ∃ p ys, xs = [.ref p] ∧ (SqL K H p ys ∨ SqT K H p ys) ∧ ∀ l, H l = none → Q (.ref l) (upd H l (.lst ys))
theorem callLst (K : PySem.W.Frag) (e : X.K = K := by rfl) : CallR X (.type "list") (rLstOf K) := e ▸ call_list_of
def rTupOf (K : PySem.W.Frag) : List V → Hp → VK → Prop := fun xs H Q => ∃ p ys, xs = [.ref p] ∧ ((SqL K H p ys ∧ ∀ l, H l = none → Q (.ref l) (upd H l (.tup ys))) ∨ (SqT K H p ys ∧ Q (.ref p) H))
theorem callTup (K : PySem.W.Frag) (e : X.K = K := by rfl) : CallR X (.type "tuple") (rTupOf K) := e ▸ call_tuple_of
theorem eqD (K : PySem.W.Frag) (hu : X.A.units + 64 < cLine) (e : X.K = K := by rfl) : OpR X (compareOp .Eq) (rEqD K) := e ▸ op_eqD hu
theorem neD (K : PySem.W.Frag) (hu : X.A.units + 64 < cLine) (e : X.K = K := by rfl) : OpR X (compareOp .NotEq) (rNeD K) := e ▸ op_neD hu
theorem callIsi (K : PySem.W.Frag) (e : X.K = K := by rfl) : CallR X (.builtin "isinstance") (rIsi K) := e ▸ call_isi
theorem inSq (K : PySem.W.Frag) (e : X.K = K := by rfl) : OpR X (compareOp .In) (rIn K false) := e ▸ op_in_seq
theorem ninSq (K : PySem.W.Frag) (e : X.K = K := by rfl) : OpR X (compareOp .NotIn) (rIn K true) := e ▸ op_notIn_seq
theorem piL (K : PySem.W.Frag) {tg l : Expr} {tl : TE} (h : PE X l tl) (e : X.K = K := by rfl) : PI X tg l (iList K tl) := e ▸ pi_list h
theorem piT (K : PySem.W.Frag) {tg l : Expr} {tl : TE} (h : PE X l tl) (e : X.K = K := by rfl) : PI X tg l (iTup K tl) := e ▸ pi_tup h
theorem pgT (K : PySem.W.Frag) {es : List Expr} {k : Nat} {t : TGs} {n : Nat} {pos : Pos} (hc : X.calm = true) (h : PGs X es t)
    (hn : (assignEach es X.env).length = n := by rfl) (hst : (assignEach es X.env).findIdx? (·.1) = none := by rfl) (e : X.K = K := by rfl) : PG X (.Tuple es k pos) (gTup K n t) := e ▸ pg_tup hc h hn hst
theorem peM0 (K : PySem.W.Frag) {o : Expr} {to : TE} {name : Str} {apos cpos : Pos} {T id : String} {r : V → List V → Hp → VK → Prop} (pa : PlainAttrs T) (slot : Slot T name id) (hty : typeOf (.builtin id) = pure (.type "method_descriptor")) (hm : MtR X id r) (ho : PE X o to)
    (hbase : attributeBase o name X.env (eval o X.env) = eval o X.env := by rfl) (hline : (apos.endLine == cpos.line) = true := by rfl) (e : X.K = K := by rfl) : PE X (.Call (.Attribute o name apos) [] [] cpos) (tBM0 K T r to) := e ▸ pe_bm0 pa slot hty hm ho hbase hline
theorem peM (K : PySem.W.Frag) {o a : Expr} {es : List Expr} {to : TE} {t : TA} {name : Str} {apos cpos : Pos} {T id : String} {r : V → List V → Hp → VK → Prop} (pa : PlainAttrs T) (slot : Slot T name id) (hty : typeOf (.builtin id) = pure (.type "method_descriptor")) (hm : MtR X id r) (ho : PE X o to) (ha : PA X (a :: es) t)
    (hbase : attributeBase o name X.env (eval o X.env) = eval o X.env := by rfl)
    (hfew : ((backTo cpos (starEach (a :: es) X.env)).all (fun x => !x.1) && (backToKw cpos (keywordEach [] X.env)).all (fun x => x.1.isSome)
      && decide ((a :: es).length + ([] : List Keyword).length + (if ([] : List Keyword).isEmpty then 0 else 1) < 30)) = true := by rfl)
    (hline : (apos.endLine == cpos.line) = true := by rfl) (hs : starEach (a :: es) X.env = (false, eval a X.env) :: starEach es X.env := by rfl) (hplain : (backTo cpos (starEach es X.env)).any (·.1) = false := by rfl) (e : X.K = K := by rfl) :
    PE X (.Call (.Attribute o name apos) (a :: es) [] cpos) (tBM K T r to t) := e ▸ pe_bm pa slot hty hm ho ha hbase hfew hline hs hplain
theorem callSrtI (K : PySem.W.Frag) (e : X.K = K := by rfl) : CallR X (.builtin "sorted") (rSortedI K) := e ▸ cr_sortedI
theorem mtIndex (K : PySem.W.Frag) (e : X.K = K := by rfl) : MtR X "list.index" (rIndex K) := e ▸ mt_index
/-- a op b op c op d -/
def tChain3 (r1 r2 r3 : R2) (ta tb tc td : TE) : TE := fun σ H Q => ta σ H fun x H1 => tb σ H1 fun y H2 => r1 x y H2 fun z H3 => ∃ k, z = .bl k ∧
  (if k = true then tc σ H3 fun u H4 => r2 y u H4 fun z2 H5 => ∃ k2, z2 = .bl k2 ∧ (if k2 = true then td σ H5 fun v H6 => r3 u v H6 Q else Q (.bl false) H5) else Q (.bl false) H3)
theorem pe_chain3 {a b c d : Expr} {ta tb tc td : TE} {pos : Pos} {o1 o2 o3 : CmpOp} {r1 r2 r3 : R2} (h1 : OpR X (compareOp o1) r1) (h2 : OpR X (compareOp o2) r2) (h3 : OpR X (compareOp o3) r3) (ha : PE X a ta) (hb : PE X b tb) (hc : PE X c tc) (hd : PE X d td)
    (hm : lastMarks [o1, o2, o3] [b, c, d] = false := by with_unfolding_all rfl) : PE X (.Compare a [o1, o2, o3] [b, c, d] pos) (tChain3 r1 r2 r3 ta tb tc td) := by
  refine ⟨fun pins s σ H Q I h => ?_⟩
  refine PyProof.Rows.Compare_chain (thn (ha.run pins s σ H _ I h) fun v s1 ⟨x, H1, I1, q1r, q1⟩ => PyProof.Rows.chain_link (thn (hb.run pins s1 σ H1 _ I1 q1) fun u s2 ⟨y, H2, I2, q2r, q2⟩ =>
    thn (h1 pins s2 σ H2 x y v u _ I2 q1r q2r q2) fun e s3 ⟨z, H3, I3, q3r, k, ez, q3⟩ => ?_)) hm
  subst ez
  cases q3r
  refine wpAny_truthy_bool ?_
  cases k with
  | false => exact iteF ⟨.bl false, H3, I3, rfl, q3⟩
  | true =>
    refine iteT (PyProof.Rows.chain_link (thn (hc.run pins s3 σ H3 _ I3 q3) fun w s4 ⟨y2, H4, I4, q4r, q4⟩ => thn (h2 pins s4 σ H4 y y2 u w _ I4 q2r q4r q4) fun e2 s5 ⟨z2, H5, I5, q5r, k2, ez2, q5⟩ => ?_))
    subst ez2
    cases q5r
    refine wpAny_truthy_bool ?_
    cases k2 with
    | false => exact iteF ⟨.bl false, H5, I5, rfl, q5⟩
    | true => exact iteT (PyProof.Rows.chain_last (thn (hd.run pins s5 σ H5 _ I5 q5) fun w' s6 ⟨z', H6, I6, q6r, q6⟩ => h3 pins s6 σ H6 y2 z' w w' Q I6 q4r q6r q6))
end
section
variable {X : Cx}
theorem pe_gi {x : Str} {i : Int} {pos : Pos} (h : ∃ t, X.mg x = some (.int i t)) (hg : Gl X x := by rfl) (hd : (x == ("__debug__" : Str)) = false := by decide) : PE X (.Name x pos) (tC (.int i)) := by
  obtain ⟨t, e⟩ := h
  exact pe_glob hg e ⟨t, rfl⟩ hd
theorem pe_gs {x y : Str} {pos : Pos} (h : ∃ t, X.mg x = some (.str y t)) (hg : Gl X x := by rfl) (hd : (x == ("__debug__" : Str)) = false := by decide) : PE X (.Name x pos) (tC (.str y)) := by
  obtain ⟨t, e⟩ := h
  exact pe_glob hg e ⟨t, rfl⟩ hd
end
/-! ### a reading's outermost word, taken off -/
theorem sq {t u : TS} {D : Ends} {σ : St} {H : Hp} (h : t { D with nx := u D } σ H) : tSeq t u D σ H := h
theorem gn {i : Nat} {v : V} {σ : St} {H : Hp} {Q : St → Hp → Prop} (h : Q (σ.set i (some v)) H) : gName i v σ H Q := h
theorem asg {te : TE} {i : Nat} {D : Ends} {σ : St} {H : Hp} (h : te σ H fun x H1 => D.nx (σ.set i (some x)) H1) : tAsg te (gName i) D σ H := h
theorem nxt {D : Ends} {σ : St} {H : Hp} (h : D.nx σ H) : tNext D σ H := h
theorem ifs {c : TT} {t u : TS} {D : Ends} {σ : St} {H : Hp} (h : c σ H fun b H1 => if b = true then t D σ H1 else u D σ H1) : tIfS c t u D σ H := h
theorem tst {t : TE} {σ : St} {H : Hp} {Q : Bool → Hp → Prop} (h : t σ H fun x H' => ∃ k, x = .bl k ∧ Q k H') : tTest t σ H Q := h
theorem tbb {t : TE} {σ : St} {H : Hp} {Q : Bool → Hp → Prop} (h : t σ H fun x H' => ∃ k, x = .bl k ∧ Q k H') : tB t σ H Q := h
theorem cb {r : List V → Hp → VK → Prop} {t : TA} {σ : St} {H : Hp} {Q : VK} (h : t σ H fun vs H1 => r vs H1 Q) : tCB r t σ H Q := h
theorem cns {ta : TE} {tr : TA} {σ : St} {H : Hp} {Q : List V → Hp → Prop} (h : ta σ H fun x H1 => tr σ H1 fun xs H2 => Q (x :: xs) H2) : tCons ta tr σ H Q := h
theorem opp {r : R2} {ta tb : TE} {σ : St} {H : Hp} {Q : VK} (h : ta σ H fun x H1 => tb σ H1 fun y H2 => r x y H2 Q) : tOp r ta tb σ H Q := h
theorem cll {sp : Sp} {E : XK} {t : TA} {σ : St} {H : Hp} {Q : VK} (h : t σ H fun vs H1 => sp vs H1 Q E) : tCl sp E t σ H Q := h
theorem lstt {t : TA} {σ : St} {H : Hp} {Q : VK} (h : t σ H fun xs H1 => xs.length ≤ sizeLine ∧ ∀ p, H1 p = none → Q (.ref p) (upd H1 p (.lst xs))) : tLst t σ H Q := h
theorem tupp {t : TA} {σ : St} {H : Hp} {Q : VK} (h : t σ H fun xs H1 => xs.length ≤ sizeLine ∧ ∀ p, H1 p = none → Q (.ref p) (upd H1 p (.tup xs))) : tTup t σ H Q := h
theorem bmm {K : PySem.W.Frag} {T : String} {r : V → List V → Hp → VK → Prop} {to : TE} {t : TA} {σ : St} {H : Hp} {Q : VK} (h : to σ H fun x H1 => tyV K T x H1 ∧ t σ H1 fun xs H2 => r x xs H2 Q) : tBM K T r to t σ H Q := h
theorem retn {te : TE} {D : Ends} {σ : St} {H : Hp} (h : te σ H D.rt) : tRet te D σ H := h
/-! ### comprehensions whose tests and elements leave the heap as it is -/
section
variable {K : PySem.W.Frag} {σ : St} {H : Hp} {tl te : TE} {tt : TT} {j : Nat} {vs : List Nat} {a : Addr} {xs : List V} {Q : VK}
theorem filter_take {α : Type} {f : α → Bool} {xs : List α} {i : Nat} {x : α} (h : xs[i]? = some x) : (xs.take (i + 1)).filter f = (xs.take i).filter f ++ (if f x = true then [x] else []) := by
  rw [List.take_add_one, h, List.filter_append]
  congr 1
  cases e : f x <;> simp [e]
theorem lc_turn (f : V → Bool) (v : V → V) {H' : Hp} {D : Addr} {i : Nat} {x : V} {σ2 : St} (hD : H D = none) (hi : xs[i]? = some x) (hz : xs.length ≤ 40000) (e : H' = upd H D (.lst (((xs.take i).filter f).map v)))
    (ht : ∀ H1, Same H H1 → ∀ Q : Bool → Hp → Prop, Q (f x) H1 → tt σ2 H1 Q) (he : f x = true → ∀ H1, Same H H1 → ∀ Q : VK, Q (v x) H1 → te σ2 H1 Q) :
    tt σ2 H' fun b H3 => if b = true then te σ2 H3 fun y H4 => ∃ acc, H4 D = some (.lst acc) ∧ acc.length < sizeLine ∧ upd H4 D (.lst (acc ++ [y])) = upd H D (.lst (((xs.take (i + 1)).filter f).map v)) else H3 = upd H D (.lst (((xs.take (i + 1)).filter f).map v)) := by
  subst e
  refine ht _ (sm_new hD) _ ?_
  rw [filter_take hi]
  cases hf : f x with
  | true =>
    refine iteT (he hf _ (sm_new hD) _ ⟨_, upd_same, szl ?_, ?_⟩)
    · rw [List.length_map]
      have h1 := List.length_filter_le f (xs.take i)
      rw [List.length_take] at h1
      omega
    · rw [upd_upd, if_pos rfl, List.map_append]
      rfl
  | false =>
    refine iteF ?_
    rw [if_neg Bool.false_ne_true, List.append_nil]
theorem lcL (f : V → Bool) (v : V → V) (hl : ∀ Q : VK, Q (.ref a) H → tl σ H Q) (hx : SqL K H a xs) (hz : xs.length ≤ 40000) (hw : ∀ x, wipe ((wipe σ vs).set j (some x)) vs = wipe σ vs)
    (ht : ∀ x ∈ xs, ∀ H1, Same H H1 → ∀ Q : Bool → Hp → Prop, Q (f x) H1 → tt ((wipe σ vs).set j (some x)) H1 Q) (he : ∀ x ∈ xs, f x = true → ∀ H1, Same H H1 → ∀ Q : VK, Q (v x) H1 → te ((wipe σ vs).set j (some x)) H1 Q)
    (q : ∀ p, H p = none → Q (.ref p) (upd H p (.lst ((xs.filter f).map v)))) : tLc (iList K tl) (gName j) tt te vs σ H Q := by
  refine hl _ ⟨a, rfl, ⟨xs, hx⟩, fun D hD => lc_list (K := K) (a := a) (xs := xs) (fun i H' => H' = upd H D (.lst (((xs.take i).filter f).map v))) rfl (fun i H' _ e => ?_) (fun i x H' hi e => ⟨hw x, ?_⟩) (fun H' e => ?_)⟩
  · rw [e]
    exact (sm_new hD).seq hx
  · have hm := List.mem_of_getElem? hi
    exact lc_turn f v hD hi hz e (ht x hm) (he x hm)
  · rw [List.take_length] at e
    rw [e]
    exact q D hD
theorem lcT (f : V → Bool) (v : V → V) (hl : ∀ Q : VK, Q (.ref a) H → tl σ H Q) (hx : SqT K H a xs) (hz : xs.length ≤ 40000) (hw : ∀ x, wipe ((wipe σ vs).set j (some x)) vs = wipe σ vs)
    (ht : ∀ x ∈ xs, ∀ H1, Same H H1 → ∀ Q : Bool → Hp → Prop, Q (f x) H1 → tt ((wipe σ vs).set j (some x)) H1 Q) (he : ∀ x ∈ xs, f x = true → ∀ H1, Same H H1 → ∀ Q : VK, Q (v x) H1 → te ((wipe σ vs).set j (some x)) H1 Q)
    (q : ∀ p, H p = none → Q (.ref p) (upd H p (.lst ((xs.filter f).map v)))) : tLc (iTup K tl) (gName j) tt te vs σ H Q := by
  refine hl _ ⟨a, rfl, ⟨xs, hx⟩, fun D hD => lc_tup (K := K) (a := a) (xs := xs) (fun i H' => H' = upd H D (.lst (((xs.take i).filter f).map v))) rfl (fun i H' _ e => ?_) (fun i x H' hi e => ⟨hw x, ?_⟩) (fun H' e => ?_)⟩
  · rw [e]
    exact sm_seqT (sm_new hD) hx
  · have hm := List.mem_of_getElem? hi
    exact lc_turn f v hD hi hz e (ht x hm) (he x hm)
  · rw [List.take_length] at e
    rw [e]
    exact q D hD
/-- over a tuple, a list that was made on the way -/
theorem lcTN (f : V → Bool) (v : V → V) (hl : ∀ Q : VK, (∀ a H1, Same H H1 → SqT K H1 a xs → Q (.ref a) H1) → tl σ H Q) (hz : xs.length ≤ 40000) (hw : ∀ x, wipe ((wipe σ vs).set j (some x)) vs = wipe σ vs)
    (ht : ∀ x ∈ xs, ∀ H1, Same H H1 → ∀ Q : Bool → Hp → Prop, Q (f x) H1 → tt ((wipe σ vs).set j (some x)) H1 Q) (he : ∀ x ∈ xs, f x = true → ∀ H1, Same H H1 → ∀ Q : VK, Q (v x) H1 → te ((wipe σ vs).set j (some x)) H1 Q)
    (q : ∀ H1 p, Same H H1 → H1 p = none → Q (.ref p) (upd H1 p (.lst ((xs.filter f).map v)))) : tLc (iTup K tl) (gName j) tt te vs σ H Q := by
  refine hl _ fun a H1 s1 hx => ⟨a, rfl, ⟨xs, hx⟩, fun D hD => lc_tup (K := K) (a := a) (xs := xs) (fun i H' => H' = upd H1 D (.lst (((xs.take i).filter f).map v))) rfl (fun i H' _ e => ?_) (fun i x H' hi e => ⟨hw x, ?_⟩) (fun H' e => ?_)⟩
  · rw [e]
    exact sm_seqT (sm_new hD) hx
  · have hm := List.mem_of_getElem? hi
    exact lc_turn f v hD hi hz e (fun H2 s2 => ht x hm H2 (s1.trans s2)) (fun hf H2 s2 => he x hm hf H2 (s1.trans s2))
  · rw [List.take_length] at e
    rw [e]
    exact q H1 D s1 hD
theorem lcLN (f : V → Bool) (v : V → V) (hl : ∀ Q : VK, (∀ a H1, Same H H1 → SqL K H1 a xs → Q (.ref a) H1) → tl σ H Q) (hz : xs.length ≤ 40000) (hw : ∀ x, wipe ((wipe σ vs).set j (some x)) vs = wipe σ vs)
    (ht : ∀ x ∈ xs, ∀ H1, Same H H1 → ∀ Q : Bool → Hp → Prop, Q (f x) H1 → tt ((wipe σ vs).set j (some x)) H1 Q) (he : ∀ x ∈ xs, f x = true → ∀ H1, Same H H1 → ∀ Q : VK, Q (v x) H1 → te ((wipe σ vs).set j (some x)) H1 Q)
    (q : ∀ H1 p, Same H H1 → H1 p = none → Q (.ref p) (upd H1 p (.lst ((xs.filter f).map v)))) : tLc (iList K tl) (gName j) tt te vs σ H Q := by
  refine hl _ fun a H1 s1 hx => ⟨a, rfl, ⟨xs, hx⟩, fun D hD => lc_list (K := K) (a := a) (xs := xs) (fun i H' => H' = upd H1 D (.lst (((xs.take i).filter f).map v))) rfl (fun i H' _ e => ?_) (fun i x H' hi e => ⟨hw x, ?_⟩) (fun H' e => ?_)⟩
  · rw [e]
    exact (sm_new hD).seq hx
  · have hm := List.mem_of_getElem? hi
    exact lc_turn f v hD hi hz e (fun H2 s2 => ht x hm H2 (s1.trans s2)) (fun hf H2 s2 => he x hm hf H2 (s1.trans s2))
  · rw [List.take_length] at e
    rw [e]
    exact q H1 D s1 hD
/-- over range(n) -/
theorem lcR {ta : TA} {n : Int} (f : V → Bool) (v : V → V) (hl : ∀ Q : List V → Hp → Prop, Q [.int n] H → ta σ H Q) (hz : n ≤ 40000) (hw : ∀ x, wipe ((wipe σ vs).set j (some x)) vs = wipe σ vs)
    (ht : ∀ i : Nat, (i : Int) < n → ∀ H1, Same H H1 → ∀ Q : Bool → Hp → Prop, Q (f (.int (i : Int))) H1 → tt ((wipe σ vs).set j (some (.int (i : Int)))) H1 Q)
    (he : ∀ i : Nat, (i : Int) < n → f (.int (i : Int)) = true → ∀ H1, Same H H1 → ∀ Q : VK, Q (v (.int (i : Int))) H1 → te ((wipe σ vs).set j (some (.int (i : Int)))) H1 Q) (hn : -40000 ≤ n)
    (q : ∀ p, H p = none → Q (.ref p) (upd H p (.lst ((((List.range n.toNat).map fun i : Nat => V.int (i : Int)).filter f).map v)))) : tLc (iRng1 ta) (gName j) tt te vs σ H Q := by
  refine hl _ ⟨n, rfl, by omega, by omega, fun D hD => lc_range (lo := 0) (n := n.toNat) (fun i H' => H' = upd H D (.lst ((((((List.range n.toNat).map fun i : Nat => V.int (i : Int))).take i).filter f).map v))) rfl (fun i H' hi e => ?_) (fun H' e => ?_)⟩
  · have e0 : (0 : Int) + (i : Int) = (i : Int) := Int.zero_add _
    have hg : ((List.range n.toNat).map fun i : Nat => V.int (i : Int))[i]? = some (V.int (i : Int)) := by
      rw [List.getElem?_map, List.getElem?_range hi]
      rfl
    rw [e0]
    exact ⟨hw _, lc_turn f v hD hg (by rw [List.length_map, List.length_range]; omega) e (ht i (by omega)) (he i (by omega))⟩
  · rw [List.take_of_length_le (by rw [List.length_map, List.length_range]; exact Nat.le_refl _)] at e
    rw [e]
    exact q D hD
end
end Pg
namespace Pg
open PySem L2
/-! ### lists of pairs of ints, sorted -/
abbrev Pr := Int × Int
def insP (x : Pr) : List Pr → List Pr
  | [] => [x]
  | y :: r => if SrtO.lexB y x = true then y :: insP x r else x :: y :: r
def sortP : List Pr → List Pr
  | [] => []
  | x :: r => insP x (sortP r)
abbrev SrP (l : List Pr) : Prop := l.Pairwise fun x y => SrtO.lexB y x = false
theorem insP_perm (x : Pr) : ∀ l, (insP x l).Perm (x :: l)
  | [] => List.Perm.refl _
  | y :: r => by
    unfold insP
    split
    · exact ((insP_perm x r).cons y).trans (List.Perm.swap x y r)
    · exact List.Perm.refl _
theorem sortP_perm : ∀ l, (sortP l).Perm l
  | [] => List.Perm.refl _
  | x :: r => (insP_perm x (sortP r)).trans ((sortP_perm r).cons x)
theorem insP_sorted (x : Pr) : ∀ l, SrP l → SrP (insP x l)
  | [], _ => List.pairwise_singleton _ _
  | y :: r, h => by
    obtain ⟨h1, h2⟩ := List.pairwise_cons.mp h
    unfold insP
    split
    · rename_i c
      refine List.pairwise_cons.mpr ⟨fun z hz => ?_, insP_sorted x r h2⟩
      rcases List.mem_cons.mp ((insP_perm x r).mem_iff.mp hz) with e | m
      · subst e
        have c1 := SrtO.lexB_iff.mp c
        exact SrtO.lexB_no.mpr (by omega)
      · exact h1 z m
    · rename_i c
      have c' : SrtO.lexB y x = false := by
        cases e : SrtO.lexB y x with
        | true => exact absurd e c
        | false => rfl
      refine List.pairwise_cons.mpr ⟨fun z hz => ?_, h⟩
      rcases List.mem_cons.mp hz with e | m
      · subst e
        exact c'
      · have a := SrtO.lexB_no.mp c'
        have b := SrtO.lexB_no.mp (h1 z m)
        exact SrtO.lexB_no.mpr (by omega)
theorem sortP_sorted : ∀ l, SrP (sortP l)
  | [] => List.Pairwise.nil
  | x :: r => insP_sorted x _ (sortP_sorted r)
theorem srp_uniq {l m : List Pr} (h1 : SrP l) (h2 : SrP m) (p : l.Perm m) : l = m := by
  refine List.Perm.eq_of_pairwise (le := fun x y => SrtO.lexB y x = false) (fun a b _ _ q r => ?_) h1 h2 p
  have q := SrtO.lexB_no.mp q
  have r := SrtO.lexB_no.mp r
  exact Prod.ext (by omega) (by omega)
theorem sortP_of {l m : List Pr} (h1 : SrP l) (p : l.Perm m) : l = sortP m := srp_uniq h1 (sortP_sorted m) (p.trans (sortP_perm m).symm)
theorem sortP_id {l : List Pr} (h : SrP l) : sortP l = l := (sortP_of h (List.Perm.refl _)).symm
theorem sortP_len (l : List Pr) : (sortP l).length = l.length := (sortP_perm l).length_eq
theorem sortP_congr {l m : List Pr} (p : l.Perm m) : sortP l = sortP m := sortP_of (sortP_sorted l) ((sortP_perm l).trans p)
/-! ### pairs in the heap -/
def PairAt (H : Hp) (v : V) (p : Pr) : Prop := ∃ t, v = .ref t ∧ H t = some (.tup [.int p.1, .int p.2])
abbrev PairsAt (H : Hp) : List V → List Pr → Prop := Paired (PairAt H)
theorem PairAt.mono {H H' : Hp} {v : V} {p : Pr} (e : Same H H') (h : PairAt H v p) : PairAt H' v p := by
  obtain ⟨t, rfl, ht⟩ := h
  exact ⟨t, rfl, e _ _ ht⟩
theorem PairsAt.mono {H H' : Hp} (e : Same H H') : ∀ {xs : List V} {ps : List Pr}, PairsAt H xs ps → PairsAt H' xs ps
  | _, _, .nil => .nil
  | _, _, .cons a b => .cons (a.mono e) (PairsAt.mono e b)
theorem PairAt.inj {H : Hp} {v : V} {p q : Pr} (h : PairAt H v p) (h' : PairAt H v q) : p = q := by
  obtain ⟨t, rfl, ht⟩ := h
  obtain ⟨t', e, ht'⟩ := h'
  cases e
  rw [ht] at ht'
  have z := HO.tup.inj (Option.some.inj ht')
  have z1 := V.int.inj (List.cons.inj z).1
  have z2 := V.int.inj (List.cons.inj (List.cons.inj z).2).1
  exact Prod.ext z1 z2
theorem paired_length {α β : Type} {F : α → β → Prop} : ∀ {xs : List α} {ys : List β}, Paired F xs ys → xs.length = ys.length
  | _, _, .nil => rfl
  | _, _, .cons _ t => by
    rw [List.length_cons, List.length_cons, paired_length t]
theorem paired_get {α β : Type} {F : α → β → Prop} : ∀ {xs : List α} {ys : List β} {i : Nat} {y : β}, Paired F xs ys → ys[i]? = some y → ∃ x, xs[i]? = some x ∧ F x y
  | _, _, _, _, .nil, e => by simp at e
  | _, _, 0, _, .cons r _, e => ⟨_, rfl, by rw [← Option.some.inj e]; exact r⟩
  | _, _, i + 1, y, .cons _ t, e => paired_get (i := i) t e
theorem paired_get' {α β : Type} {F : α → β → Prop} : ∀ {xs : List α} {ys : List β} {i : Nat} {x : α}, Paired F xs ys → xs[i]? = some x → ∃ y, ys[i]? = some y ∧ F x y
  | _, _, _, _, .nil, e => by simp at e
  | _, _, 0, _, .cons r _, e => ⟨_, rfl, by rw [← Option.some.inj e]; exact r⟩
  | _, _, i + 1, y, .cons _ t, e => paired_get' (i := i) t e
theorem paired_append {α β : Type} {F : α → β → Prop} : ∀ {xs xs' : List α} {ys ys' : List β}, Paired F xs ys → Paired F xs' ys' → Paired F (xs ++ xs') (ys ++ ys')
  | _, _, _, _, .nil, h => h
  | _, _, _, _, .cons r t, h => .cons r (paired_append t h)
theorem paired_drop {α β : Type} {F : α → β → Prop} : ∀ {xs : List α} {ys : List β} (n : Nat), Paired F xs ys → Paired F (xs.drop n) (ys.drop n)
  | _, _, 0, h => h
  | _, _, _ + 1, .nil => .nil
  | _, _, n + 1, .cons _ t => paired_drop n t
theorem paired_take {α β : Type} {F : α → β → Prop} : ∀ {xs : List α} {ys : List β} (n : Nat), Paired F xs ys → Paired F (xs.take n) (ys.take n)
  | _, _, 0, h => .nil
  | _, _, _ + 1, .nil => .nil
  | _, _, n + 1, .cons r t => .cons r (paired_take n t)
theorem paired_mem {α β : Type} {F : α → β → Prop} : ∀ {xs : List α} {ys : List β} {x : α}, Paired F xs ys → x ∈ xs → ∃ y ∈ ys, F x y
  | _, _, _, .nil, m => absurd m List.not_mem_nil
  | _, _, x, .cons r t, m => by
    rcases List.mem_cons.mp m with e | m
    · subst e
      exact ⟨_, List.mem_cons_self, r⟩
    · obtain ⟨y, hy, q⟩ := paired_mem t m
      exact ⟨y, List.mem_cons_of_mem _ hy, q⟩
/-- the pair that stands at a value -/
def prOf (H : Hp) : V → Pr
  | .ref t => match H t with
    | some (.tup [.int a, .int b]) => (a, b)
    | _ => (0, 0)
  | _ => (0, 0)
theorem PairAt.of {H : Hp} {v : V} {p : Pr} (h : PairAt H v p) : prOf H v = p := by
  obtain ⟨t, rfl, ht⟩ := h
  unfold prOf
  simp only [ht]
theorem PairsAt.map {H : Hp} : ∀ {xs : List V} {ps : List Pr}, PairsAt H xs ps → ps = xs.map (prOf H)
  | _, _, .nil => rfl
  | _, _, .cons a b => by rw [List.map_cons, a.of, ← PairsAt.map b]
theorem PairsAt.all {H : Hp} {xs : List V} {ps : List Pr} (h : PairsAt H xs ps) : ∀ x ∈ xs, PairAt H x (prOf H x) := fun x m => by
  obtain ⟨p, _, q⟩ := paired_mem h m
  rw [q.of]
  exact q
theorem pairsAt_of {H : Hp} : ∀ {xs : List V}, (∀ x ∈ xs, PairAt H x (prOf H x)) → PairsAt H xs (xs.map (prOf H))
  | [], _ => .nil
  | x :: r, h => .cons (h x List.mem_cons_self) (pairsAt_of fun y m => h y (List.mem_cons_of_mem _ m))
/-- sorted of a list of pairs -/
def rSortedPP (K : PySem.W.Frag) : List V → Hp → VK → Prop := fun vs H Q => ∃ (a : Addr) (xs : List V) (ps : List Pr), vs = [V.ref a] ∧ SqL K H a xs ∧ PairsAt H xs ps ∧
  ∀ (ys : List V) (p : Addr), PairsAt H ys (sortP ps) → ys.Perm xs → H p = none → Q (.ref p) (upd H p (.lst ys))
theorem sorted_pairs {H : Hp} {xs ys : List V} {ps : List Pr} (h : PairsAt H xs ps) (h1 : SrtO.Srtd (ltP (prOf H)) ys) (h2 : ys.Perm xs) : PairsAt H ys (sortP ps) := by
  have e : ys.map (prOf H) = sortP ps := sortP_of (SrtO.srtd_map h1) (by rw [h.map]; exact h2.map _)
  rw [← e]
  exact pairsAt_of fun x m => h.all x (h2.mem_iff.mp m)
theorem cr_sortedPP {X : Cx} (K : PySem.W.Frag) (e : X.K = K := by rfl) : CallR X (.builtin "sorted") (rSortedPP K) := by
  subst e
  intro pins s σ H vs us Q I r h
  obtain ⟨a, xs, ps, rfl, hs, hp, q⟩ := h
  refine cr_sortedPO pins s σ H _ us Q I r ⟨a, xs, prOf H, rfl, hs, fun x m => ?_, fun ys p h1 h2 hn => ?_⟩
  · obtain ⟨t, e, ht⟩ := hp.all x m
    exact ⟨t, e, ht⟩
  · exact q ys p (sorted_pairs hp h1 h2.perm) h2.perm hn
/-! ### a pairing in the heap -/
def PairingAt (H : Hp) (v : V) (n : Int) (ps : List Pr) : Prop := ∃ (p q : Addr) (xs : List V), v = .ref p ∧ H p = some (.tup [.int n, .ref q]) ∧ H q = some (.tup xs) ∧ PairsAt H xs ps
theorem PairingAt.mono {H H' : Hp} {v : V} {n : Int} {ps : List Pr} (e : Same H H') (h : PairingAt H v n ps) : PairingAt H' v n ps := by
  obtain ⟨p, q, xs, rfl, h1, h2, h3⟩ := h
  exact ⟨p, q, xs, rfl, e _ _ h1, e _ _ h2, h3.mono e⟩
/-- a list that is changed leaves the pairs -/
theorem upd_pair {H : Hp} {a : Addr} {ys zs : List V} {v : V} {p : Pr} (h : H a = some (.lst ys)) (hp : PairAt H v p) : PairAt (upd H a (.lst zs)) v p := by
  obtain ⟨t, rfl, ht⟩ := hp
  refine ⟨t, rfl, ?_⟩
  rw [upd_ne (ne_of ht h (by intro z; cases z))]
  exact ht
theorem upd_pairs {H : Hp} {a : Addr} {o u : HO} {xs : List V} {ps : List Pr} (h : H a = some o) (hp : PairsAt H xs ps) (ho : (∃ ys, o = .lst ys) := by exact ⟨_, rfl⟩) : PairsAt (upd H a u) xs ps := by
  obtain ⟨ys, rfl⟩ := ho
  induction hp with
  | nil => exact .nil
  | cons a b ih =>
    refine .cons ?_ ih
    obtain ⟨t, e, ht⟩ := a
    refine ⟨t, e, ?_⟩
    rw [upd_ne (ne_of ht h (by intro z; cases z))]
    exact ht
/-! ### as data -/
def prD (p : Pr) : PyData := .tuple [.int p.1, .int p.2]
def prsD (ps : List Pr) : PyData := .tuple (ps.map prD)
def pgD (n : Int) (ps : List Pr) : PyData := .tuple [.int n, prsD ps]
theorem PairAt.dp {K : PySem.W.Frag} {H : Hp} {v : V} {p : Pr} (h : PairAt H v p) : Dp K H v (prD p) := by
  obtain ⟨t, rfl, ht⟩ := h
  exact .tup (SqT.of ht) (.cons (.int _) (.cons (.int _) .nil))
theorem PairsAt.dp {K : PySem.W.Frag} {H : Hp} : ∀ {xs : List V} {ps : List Pr}, PairsAt H xs ps → DpAll K H xs (ps.map prD)
  | _, _, .nil => .nil
  | _, _, .cons a b => .cons a.dp (PairsAt.dp b)
theorem PairingAt.dp {K : PySem.W.Frag} {H : Hp} {v : V} {n : Int} {ps : List Pr} (h : PairingAt H v n ps) : Dp K H v (pgD n ps) := by
  obtain ⟨p, q, xs, rfl, h1, h2, h3⟩ := h
  exact .tup (SqT.of h1) (.cons (.int _) (.cons (.tup (SqT.of h2) h3.dp) .nil))
end Pg
namespace Pg
open PySem L2
/-! ### walks -/
inductive Stp where
  | lone | opn | num (k : Nat)
  deriving DecidableEq
def Stp.v : Stp → V
  | .lone => .str "lone"
  | .opn => .str "open"
  | .num k => .int (k : Int)
/-- the pairs that are open behind the steps, where they are the steps of a walk -/
def run : Nat → List Stp → Option Nat
  | h, [] => some h
  | h, .lone :: r => run h r
  | h, .opn :: r => run (h + 1) r
  | h, .num k :: r => if k < h then run (h - 1) r else none
theorem run_append : ∀ (h : Nat) (a b : List Stp), run h (a ++ b) = (run h a).bind fun h' => run h' b
  | h, [], b => rfl
  | h, .lone :: r, b => run_append h r b
  | h, .opn :: r, b => run_append (h + 1) r b
  | h, .num k :: r, b => by
    show (if k < h then run (h - 1) (r ++ b) else none) = (if k < h then run (h - 1) r else none).bind fun h' => run h' b
    by_cases c : k < h
    · rw [if_pos c, if_pos c]
      exact run_append (h - 1) r b
    · rw [if_neg c, if_neg c]
      rfl
theorem run_lone {ws : List Stp} {h : Nat} (r : run 0 ws = some h) : run 0 (ws ++ [.lone]) = some h := by
  rw [run_append, r]
  rfl
theorem run_opn {ws : List Stp} {h : Nat} (r : run 0 ws = some h) : run 0 (ws ++ [.opn]) = some (h + 1) := by
  rw [run_append, r]
  rfl
theorem run_num {ws : List Stp} {h k : Nat} (r : run 0 ws = some h) (hk : k < h) : run 0 (ws ++ [.num k]) = some (h - 1) := by
  rw [run_append, r]
  show (if k < h then run (h - 1) [] else none) = _
  rw [if_pos hk]
  rfl
theorem run_le : ∀ (ws : List Stp) {h h' : Nat}, run h ws = some h' → h' ≤ h + ws.length
  | [], h, h', r => by
    have e : h = h' := Option.some.inj r
    simp [e]
  | .lone :: r, h, h', e => by
    have := run_le r (h := h) e
    simp only [List.length_cons]
    omega
  | .opn :: r, h, h', e => by
    have := run_le r (h := h + 1) e
    simp only [List.length_cons]
    omega
  | .num k :: r, h, h', e => by
    have e2 : (if k < h then run (h - 1) r else none) = some h' := e
    by_cases c : k < h
    · rw [if_pos c] at e2
      have := run_le r (h := h - 1) e2
      simp only [List.length_cons]
      omega
    · rw [if_neg c] at e2
      cases e2
/-- the pairs of a walk, in the order of their ends: p the point, os the open ones -/
def clo : Int → List Int → List Stp → List (Int × Int)
  | _, _, [] => []
  | p, os, .lone :: r => clo (p + 1) os r
  | p, os, .opn :: r => clo (p + 1) (os ++ [p]) r
  | p, os, .num k :: r => (os.getD k 0, p) :: clo (p + 1) (os.eraseIdx k) r
/-- the open ones behind the steps -/
def opens : Int → List Int → List Stp → List Int
  | _, os, [] => os
  | p, os, .lone :: r => opens (p + 1) os r
  | p, os, .opn :: r => opens (p + 1) (os ++ [p]) r
  | p, os, .num k :: r => opens (p + 1) (os.eraseIdx k) r
theorem clo_append : ∀ (p : Int) (os : List Int) (a b : List Stp), clo p os (a ++ b) = clo p os a ++ clo (p + a.length) (opens p os a) b
  | p, os, [], b => by simp [clo, opens]
  | p, os, .lone :: r, b => by
    show clo (p + 1) os (r ++ b) = clo (p + 1) os r ++ clo (p + ((.lone :: r : List Stp).length : Nat)) (opens (p + 1) os r) b
    rw [clo_append (p + 1) os r b, List.length_cons]
    congr 2
    omega
  | p, os, .opn :: r, b => by
    show clo (p + 1) (os ++ [p]) (r ++ b) = clo (p + 1) (os ++ [p]) r ++ clo (p + ((.opn :: r : List Stp).length : Nat)) (opens (p + 1) (os ++ [p]) r) b
    rw [clo_append (p + 1) _ r b, List.length_cons]
    congr 2
    omega
  | p, os, .num k :: r, b => by
    show _ :: clo (p + 1) (os.eraseIdx k) (r ++ b) = (_ :: clo (p + 1) (os.eraseIdx k) r) ++ clo (p + ((.num k :: r : List Stp).length : Nat)) (opens (p + 1) (os.eraseIdx k) r) b
    rw [clo_append (p + 1) _ r b, List.length_cons, List.cons_append]
    congr 3
    omega
theorem opens_append : ∀ (p : Int) (os : List Int) (a b : List Stp), opens p os (a ++ b) = opens (p + a.length) (opens p os a) b
  | p, os, [], b => by simp [opens]
  | p, os, .lone :: r, b => by
    show opens (p + 1) os (r ++ b) = opens (p + ((.lone :: r : List Stp).length : Nat)) (opens (p + 1) os r) b
    rw [opens_append (p + 1) os r b, List.length_cons]
    congr 1
    omega
  | p, os, .opn :: r, b => by
    show opens (p + 1) (os ++ [p]) (r ++ b) = opens (p + ((.opn :: r : List Stp).length : Nat)) (opens (p + 1) (os ++ [p]) r) b
    rw [opens_append (p + 1) _ r b, List.length_cons]
    congr 1
    omega
  | p, os, .num k :: r, b => by
    show opens (p + 1) (os.eraseIdx k) (r ++ b) = opens (p + ((.num k :: r : List Stp).length : Nat)) (opens (p + 1) (os.eraseIdx k) r) b
    rw [opens_append (p + 1) _ r b, List.length_cons]
    congr 1
    omega
/-- as many are open as run tells -/
theorem opens_len : ∀ (ws : List Stp) (p : Int) (os : List Int) {h : Nat}, run os.length ws = some h → (opens p os ws).length = h
  | [], p, os, h, e => Option.some.inj e
  | .lone :: r, p, os, h, e => opens_len r (p + 1) os e
  | .opn :: r, p, os, h, e => opens_len r (p + 1) (os ++ [p]) (by rw [List.length_append]; exact e)
  | .num k :: r, p, os, h, e => by
    have e2 : (if k < os.length then run (os.length - 1) r else none) = some h := e
    by_cases c : k < os.length
    · rw [if_pos c] at e2
      exact opens_len r (p + 1) (os.eraseIdx k) (by rw [List.length_eraseIdx, if_pos c]; exact e2)
    · rw [if_neg c] at e2
      cases e2
/-- rising, all below p -/
def Asc (p : Int) (os : List Int) : Prop := os.Pairwise (· < ·) ∧ ∀ o ∈ os, o < p
theorem Asc.lone {p : Int} {os : List Int} (h : Asc p os) : Asc (p + 1) os := ⟨h.1, fun o m => by have := h.2 o m; omega⟩
theorem Asc.opn {p : Int} {os : List Int} (h : Asc p os) : Asc (p + 1) (os ++ [p]) := by
  refine ⟨List.pairwise_append.mpr ⟨h.1, List.pairwise_singleton _ _, fun a ha b hb => ?_⟩, fun o m => ?_⟩
  · rw [List.mem_singleton.mp hb]
    exact h.2 a ha
  · rcases List.mem_append.mp m with m | m
    · have := h.2 o m
      omega
    · rw [List.mem_singleton.mp m]
      omega
theorem Asc.num {p : Int} {os : List Int} (h : Asc p os) (k : Nat) : Asc (p + 1) (os.eraseIdx k) :=
  ⟨h.1.sublist (List.eraseIdx_sublist os k), fun o m => by have := h.2 o (List.mem_of_mem_eraseIdx m); omega⟩
theorem asc_nil (p : Int) : Asc p [] := ⟨List.Pairwise.nil, fun _ m => absurd m List.not_mem_nil⟩
theorem opens_asc : ∀ (ws : List Stp) (p : Int) (os : List Int), Asc p os → Asc (p + ws.length) (opens p os ws)
  | [], p, os, h => by simpa [opens] using h
  | .lone :: r, p, os, h => by
    have q := opens_asc r (p + 1) os h.lone
    rw [List.length_cons]
    show Asc _ (opens (p + 1) os r)
    have e : p + ((r.length + 1 : Nat) : Int) = p + 1 + (r.length : Int) := by omega
    rw [e]
    exact q
  | .opn :: r, p, os, h => by
    have q := opens_asc r (p + 1) _ h.opn
    rw [List.length_cons]
    show Asc _ (opens (p + 1) (os ++ [p]) r)
    have e : p + ((r.length + 1 : Nat) : Int) = p + 1 + (r.length : Int) := by omega
    rw [e]
    exact q
  | .num k :: r, p, os, h => by
    have q := opens_asc r (p + 1) _ (h.num k)
    rw [List.length_cons]
    show Asc _ (opens (p + 1) (os.eraseIdx k) r)
    have e : p + ((r.length + 1 : Nat) : Int) = p + 1 + (r.length : Int) := by omega
    rw [e]
    exact q
theorem Asc.nodup {p : Int} {os : List Int} (h : Asc p os) : os.Nodup := h.1.imp fun {a b} q e => by omega
/-- all but the one at k: of a list without doubles -/
theorem filter_ne_eraseIdx : ∀ (os : List Int) (k : Nat), os.Nodup → k < os.length → os.filter (fun o => !decide (o = os.getD k 0)) = os.eraseIdx k
  | [], k, _, h => absurd h (Nat.not_lt_zero _)
  | o :: r, 0, nd, _ => by
    obtain ⟨h1, h2⟩ := List.nodup_cons.mp nd
    show (o :: r).filter (fun x => !decide (x = o)) = r
    rw [List.filter_cons, if_neg (by simp)]
    exact List.filter_eq_self.mpr fun x hx => by
      have : x ≠ o := fun e => h1 (e ▸ hx)
      simp [this]
  | o :: r, k + 1, nd, hk => by
    obtain ⟨h1, h2⟩ := List.nodup_cons.mp nd
    have hk' : k < r.length := by simpa using hk
    have e : (o :: r).getD (k + 1) 0 = r.getD k 0 := by simp [List.getD_eq_getElem?_getD]
    rw [e, List.eraseIdx_cons_succ, List.filter_cons]
    have hm : r.getD k 0 ∈ r := by
      rw [List.getD_eq_getElem?_getD, List.getElem?_eq_getElem hk']
      exact List.getElem_mem hk'
    have ne : o ≠ r.getD k 0 := fun z => h1 (z ▸ hm)
    rw [if_pos (by rw [decide_eq_false ne]; rfl), filter_ne_eraseIdx r k h2 hk']
/-- ahead of the i-th step of a walk -/
theorem run_take {ws : List Stp} {h i : Nat} {st : Stp} (r : run 0 ws = some h) (hi : ws[i]? = some st) : ∃ hi, run 0 (ws.take i) = some hi ∧ ∀ k, st = .num k → k < hi := by
  have e : ws = ws.take i ++ ws.drop i := (List.take_append_drop i ws).symm
  have hl := (List.getElem?_eq_some_iff.mp hi).1
  have ed : ws.drop i = st :: ws.drop (i + 1) := by
    rw [List.drop_eq_getElem_cons hl, (List.getElem?_eq_some_iff.mp hi).2]
  rw [e, run_append, ed] at r
  cases c : run 0 (ws.take i) with
  | none =>
    rw [c] at r
    cases r
  | some h' =>
    refine ⟨h', rfl, fun k z => ?_⟩
    subst z
    rw [c] at r
    have r2 : (if k < h' then run (h' - 1) (ws.drop (i + 1)) else none) = some h := r
    by_cases q : k < h'
    · exact q
    · rw [if_neg q] at r2
      cases r2
theorem take_succ {α : Type} {ws : List α} {i : Nat} {st : α} (hi : ws[i]? = some st) : ws.take (i + 1) = ws.take i ++ [st] := by
  rw [List.take_add_one, hi]
  rfl
theorem take_len {α : Type} {ws : List α} {i : Nat} {st : α} (hi : ws[i]? = some st) : (ws.take i).length = i := by
  rw [List.length_take]
  have := (List.getElem?_eq_some_iff.mp hi).1
  omega
/-- the open ones and the pairs behind i steps -/
abbrev osAt (ws : List Stp) (i : Nat) : List Int := opens 0 [] (ws.take i)
abbrev prAt (ws : List Stp) (i : Nat) : List Pr := clo 0 [] (ws.take i)
theorem os_succ {ws : List Stp} {i : Nat} {st : Stp} (hi : ws[i]? = some st) : osAt ws (i + 1) = opens (i : Int) (osAt ws i) [st] := by
  show opens 0 [] (ws.take (i + 1)) = _
  rw [take_succ hi, opens_append, take_len hi, Int.zero_add]
theorem pr_succ {ws : List Stp} {i : Nat} {st : Stp} (hi : ws[i]? = some st) : prAt ws (i + 1) = prAt ws i ++ clo (i : Int) (osAt ws i) [st] := by
  show clo 0 [] (ws.take (i + 1)) = _
  rw [take_succ hi, clo_append, take_len hi, Int.zero_add]
theorem osAt_asc (ws : List Stp) (i : Nat) : Asc ((ws.take i).length) (osAt ws i) := by
  have h := opens_asc (ws.take i) 0 [] (asc_nil 0)
  rw [Int.zero_add] at h
  exact h
theorem os_num {ws : List Stp} {h i k : Nat} (r : run 0 ws = some h) (hi : ws[i]? = some (.num k)) : k < (osAt ws i).length := by
  obtain ⟨h', r', q⟩ := run_take r hi
  have e := opens_len (ws.take i) 0 [] r'
  show k < (opens 0 [] (ws.take i)).length
  rw [e]
  exact q k rfl
theorem os_le (ws : List Stp) (i : Nat) : (osAt ws i).length ≤ i := by
  have h : ∀ (r : List Stp) (p : Int) (os : List Int), (opens p os r).length ≤ os.length + r.length := by
    intro r
    induction r with
    | nil =>
      intro p os
      exact Nat.le_refl _
    | cons st r ih =>
      intro p os
      rw [List.length_cons]
      cases st with
      | lone =>
        have := ih (p + 1) os
        show (opens (p + 1) os r).length ≤ _
        omega
      | opn =>
        have := ih (p + 1) (os ++ [p])
        rw [List.length_append] at this
        show (opens (p + 1) (os ++ [p]) r).length ≤ _
        simp at this
        omega
      | num k =>
        have := ih (p + 1) (os.eraseIdx k)
        have q := (List.eraseIdx_sublist os k).length_le
        show (opens (p + 1) (os.eraseIdx k) r).length ≤ _
        omega
  have q := h (ws.take i) 0 []
  rw [List.length_take] at q
  simp at q
  show (opens 0 [] (ws.take i)).length ≤ i
  omega
theorem pr_le (ws : List Stp) (i : Nat) : (prAt ws i).length ≤ i := by
  have h : ∀ (r : List Stp) (p : Int) (os : List Int), (clo p os r).length ≤ r.length := by
    intro r
    induction r with
    | nil =>
      intro p os
      exact Nat.le_refl _
    | cons st r ih =>
      intro p os
      rw [List.length_cons]
      cases st with
      | lone => exact Nat.le_succ_of_le (ih (p + 1) os)
      | opn => exact Nat.le_succ_of_le (ih (p + 1) (os ++ [p]))
      | num k => exact Nat.succ_le_succ (ih (p + 1) (os.eraseIdx k))
  have q := h (ws.take i) 0 []
  rw [List.length_take] at q
  show (clo 0 [] (ws.take i)).length ≤ i
  omega
/-- the pairs of a walk, sorted -/
def prs (ws : List Stp) : List Pr := sortP (clo 0 [] ws)
theorem prAt_all (ws : List Stp) : prAt ws ws.length = clo 0 [] ws := by
  show clo 0 [] (ws.take ws.length) = _
  rw [List.take_length]
theorem step_at {ws : List Stp} {i : Nat} (hi : i < ws.length) : ∃ st, ws[i]? = some st ∧ (ws.map Stp.v)[i]? = some st.v := by
  refine ⟨ws[i], List.getElem?_eq_getElem hi, ?_⟩
  rw [List.getElem?_map, List.getElem?_eq_getElem hi]
  rfl
/-- where the pairs of a walk begin and end -/
theorem clo_fst : ∀ (ws : List Stp) (p : Int) (os : List Int) {h : Nat}, Asc p os → run os.length ws = some h → ((clo p os ws).map Prod.fst).Nodup ∧ ∀ x ∈ clo p os ws, (x.1 ∈ os ∨ p ≤ x.1) ∧ x.1 < x.2 ∧ p ≤ x.2
  | [], p, os, h, _, _ => ⟨List.Pairwise.nil, fun x m => absurd m List.not_mem_nil⟩
  | .lone :: r, p, os, h, a, e => by
    obtain ⟨h1, h2⟩ := clo_fst r (p + 1) os a.lone e
    refine ⟨h1, fun x m => ?_⟩
    obtain ⟨z, z2, z3⟩ := h2 x m
    refine ⟨z.imp id fun q => by omega, z2, by omega⟩
  | .opn :: r, p, os, h, a, e => by
    obtain ⟨h1, h2⟩ := clo_fst r (p + 1) (os ++ [p]) a.opn (by rw [List.length_append]; exact e)
    refine ⟨h1, fun x m => ?_⟩
    obtain ⟨z, z2, z3⟩ := h2 x m
    refine ⟨?_, z2, by omega⟩
    rcases z with z | z
    · rcases List.mem_append.mp z with z | z
      · exact .inl z
      · rw [List.mem_singleton.mp z]
        exact .inr (Int.le_refl _)
    · exact .inr (by omega)
  | .num k :: r, p, os, h, a, e => by
    have e2 : (if k < os.length then run (os.length - 1) r else none) = some h := e
    by_cases c : k < os.length
    · rw [if_pos c] at e2
      obtain ⟨h1, h2⟩ := clo_fst r (p + 1) (os.eraseIdx k) (a.num k) (by rw [List.length_eraseIdx, if_pos c]; exact e2)
      have hm : os.getD k 0 ∈ os := by
        rw [List.getD_eq_getElem?_getD, List.getElem?_eq_getElem c]
        exact List.getElem_mem c
      have hlt := a.2 _ hm
      refine ⟨?_, fun x m => ?_⟩
      · show (os.getD k 0 :: (clo (p + 1) (os.eraseIdx k) r).map Prod.fst).Nodup
        refine List.nodup_cons.mpr ⟨fun m => ?_, h1⟩
        obtain ⟨x, hx, ex⟩ := List.mem_map.mp m
        rcases (h2 x hx).1 with z | z
        · rw [← filter_ne_eraseIdx os k a.nodup c] at z
          have := (List.mem_filter.mp z).2
          rw [ex] at this
          simp at this
        · omega
      · rcases List.mem_cons.mp m with m | m
        · rw [m]
          exact ⟨.inl hm, hlt, Int.le_refl _⟩
        · obtain ⟨z, z2, z3⟩ := h2 x m
          refine ⟨?_, z2, by omega⟩
          rcases z with z | z
          · exact .inl (List.mem_of_mem_eraseIdx z)
          · exact .inr (by omega)
    · rw [if_neg c] at e2
      cases e2
theorem prs_perm (ws : List Stp) : (prs ws).Perm (clo 0 [] ws) := sortP_perm _
theorem prs_nodup {ws : List Stp} {h : Nat} (r : run 0 ws = some h) : ((prs ws).map Prod.fst).Nodup := ((prs_perm ws).map Prod.fst).nodup_iff.mpr (clo_fst ws 0 [] (asc_nil 0) r).1
theorem clo_len (ws : List Stp) : (clo 0 [] ws).length ≤ ws.length := by
  have h := pr_le ws ws.length
  rw [prAt_all] at h
  exact h
theorem prs_len (ws : List Stp) : (prs ws).length ≤ ws.length := by
  unfold prs
  rw [sortP_len]
  exact clo_len ws
theorem drop_step {α : Type} {ws : List α} {i : Nat} {st : α} (hi : ws[i]? = some st) : ws.drop i = st :: ws.drop (i + 1) := by
  have hl := (List.getElem?_eq_some_iff.mp hi).1
  rw [List.drop_eq_getElem_cons hl, (List.getElem?_eq_some_iff.mp hi).2]
theorem run_succ {ws : List Stp} {i h : Nat} {st : Stp} (hi : ws[i]? = some st) (r : run 0 (ws.take i) = some h) : run 0 (ws.take (i + 1)) = run h [st] := by
  rw [take_succ hi, run_append, r]
  rfl
end Pg
namespace Pg
open PySem L2
/-! ### how many ways go on: l points left, h pairs open -/
def cnt : Nat → Nat → Nat
  | 0, h => if h = 0 then 1 else 0
  | l + 1, h => cnt l h + cnt l (h + 1) + h * cnt l (h - 1)
/-- pairings of n points -/
def inv : Nat → Nat
  | 0 => 1
  | 1 => 1
  | n + 2 => inv (n + 1) + (n + 1) * inv n
/-- l (l - 1) .., h factors -/
def fall (l : Nat) : Nat → Nat
  | 0 => 1
  | h + 1 => fall l h * (l - h)
theorem fall_big {l : Nat} : ∀ {h : Nat}, l < h → fall l h = 0
  | 0, e => absurd e (Nat.not_lt_zero _)
  | h + 1, e => by
    show fall l h * (l - h) = 0
    by_cases c : l < h
    · rw [fall_big c, Nat.zero_mul]
    · rw [show l - h = 0 by omega, Nat.mul_zero]
theorem fall_up (l : Nat) : ∀ h, fall (l + 1) (h + 1) = (l + 1) * fall l h
  | 0 => by
    show 1 * (l + 1 - 0) = (l + 1) * 1
    omega
  | h + 1 => by
    show fall (l + 1) (h + 1) * (l + 1 - (h + 1)) = (l + 1) * (fall l h * (l - h))
    rw [fall_up l h, show l + 1 - (h + 1) = l - h by omega, Nat.mul_assoc]
theorem fall_sum {l h : Nat} (hl : h ≤ l) : fall (l + 1) (h + 1) = fall l (h + 1) + (h + 1) * fall l h := by
  rw [fall_up]
  show (l + 1) * fall l h = fall l h * (l - h) + (h + 1) * fall l h
  rw [Nat.mul_comm (fall l h), ← Nat.add_mul, show l - h + (h + 1) = l + 1 by omega]
theorem inv_step (m : Nat) : inv m + m * inv (m - 1) = inv (m + 1) := by
  cases m with
  | zero => rfl
  | succ m => rfl
theorem cnt_eq : ∀ l h, cnt l h = fall l h * inv (l - h)
  | 0, 0 => rfl
  | 0, h + 1 => by
    rw [fall_big (Nat.succ_pos h), Nat.zero_mul]
    rfl
  | l + 1, h => by
    show cnt l h + cnt l (h + 1) + h * cnt l (h - 1) = _
    rw [cnt_eq l h, cnt_eq l (h + 1), cnt_eq l (h - 1)]
    by_cases c : h ≤ l
    · have e1 : fall l h * inv (l - h) + fall l (h + 1) * inv (l - (h + 1)) = fall l h * inv (l - h + 1) := by
        rw [← inv_step (l - h), Nat.mul_add, ← Nat.mul_assoc]
        show _ + fall l h * (l - h) * inv (l - (h + 1)) = _ + fall l h * (l - h) * inv (l - h - 1)
        rw [Nat.sub_sub]
      rw [e1]
      cases h with
      | zero =>
        rw [Nat.zero_mul, Nat.add_zero]
        rfl
      | succ h =>
        rw [show h + 1 - 1 = h by omega, fall_sum (show h ≤ l by omega), show l + 1 - (h + 1) = l - h by omega, show l - (h + 1) + 1 = l - h by omega, ← Nat.mul_assoc, ← Nat.add_mul]
    · rw [fall_big (show l < h by omega), fall_big (show l < h + 1 by omega), Nat.zero_mul, Nat.zero_mul, Nat.zero_add]
      cases h with
      | zero => omega
      | succ h =>
        by_cases c2 : h ≤ l
        · have e : h = l := by omega
          subst e
          rw [show h + 1 - 1 = h by omega, show h + 1 - (h + 1) = 0 by omega, show h - h = 0 by omega, fall_up, Nat.mul_assoc]
        · rw [fall_big (show l + 1 < h + 1 by omega), show h + 1 - 1 = h by omega, fall_big (show l < h by omega), Nat.zero_mul, Nat.zero_mul, Nat.mul_zero]
theorem cnt_inv (n : Nat) : cnt n 0 = inv n := by
  rw [cnt_eq]
  show 1 * inv (n - 0) = inv n
  rw [Nat.one_mul, Nat.sub_zero]
theorem cnt_big {l h : Nat} (e : l < h) : cnt l h = 0 := by
  rw [cnt_eq, fall_big e, Nat.zero_mul]
theorem cnt_pos : ∀ {l h : Nat}, h ≤ l → 1 ≤ cnt l h
  | 0, h, e => by
    rw [show h = 0 by omega]
    exact Nat.le_refl _
  | l + 1, h, e => by
    show 1 ≤ cnt l h + cnt l (h + 1) + h * cnt l (h - 1)
    by_cases c : h ≤ l
    · have := cnt_pos (l := l) c
      omega
    · have := cnt_pos (l := l) (h := h - 1) (by omega)
      have q : 1 * 1 ≤ h * cnt l (h - 1) := Nat.mul_le_mul (by omega) this
      omega
/-! ### all walks, one point after the other -/
abbrev Row := List Stp × Nat
def ext (left : Nat) (r : Row) : List Row :=
  (if r.2 ≤ left then [(r.1 ++ [.lone], r.2)] else []) ++ ((if r.2 < left then [(r.1 ++ [.opn], r.2 + 1)] else []) ++ (List.range r.2).map fun k => (r.1 ++ [.num k], r.2 - 1))
def lev (n : Nat) : Nat → List Row
  | 0 => [([], 0)]
  | i + 1 => (lev n i).flatMap (ext (n - 1 - i))
def allW (n : Nat) : List (List Stp) := (lev n n).map Prod.fst
theorem ext_ok {n i : Nat} {r : Row} (h1 : run 0 r.1 = some r.2) (h2 : r.1.length = i) (h3 : r.2 + i ≤ n) (hi : i < n) : ∀ q ∈ ext (n - 1 - i) r, run 0 q.1 = some q.2 ∧ q.1.length = i + 1 ∧ q.2 + (i + 1) ≤ n := by
  intro q hq
  unfold ext at hq
  rcases List.mem_append.mp hq with hq | hq
  · by_cases c : r.2 ≤ n - 1 - i
    · rw [if_pos c, List.mem_singleton] at hq
      subst hq
      exact ⟨run_lone h1, by simp [h2], by show r.2 + (i + 1) ≤ n; omega⟩
    · rw [if_neg c] at hq
      cases hq
  · rcases List.mem_append.mp hq with hq | hq
    · by_cases c : r.2 < n - 1 - i
      · rw [if_pos c, List.mem_singleton] at hq
        subst hq
        exact ⟨run_opn h1, by simp [h2], by show r.2 + 1 + (i + 1) ≤ n; omega⟩
      · rw [if_neg c] at hq
        cases hq
    · obtain ⟨k, hk, e⟩ := List.mem_map.mp hq
      have hk := List.mem_range.mp hk
      subst e
      exact ⟨run_num h1 hk, by simp [h2], by show r.2 - 1 + (i + 1) ≤ n; omega⟩
theorem lev_ok {n : Nat} : ∀ {i : Nat}, i ≤ n → ∀ r ∈ lev n i, run 0 r.1 = some r.2 ∧ r.1.length = i ∧ r.2 + i ≤ n
  | 0, h, r, hr => by
    have e : r = ([], 0) := List.mem_singleton.mp hr
    subst e
    exact ⟨rfl, rfl, by show 0 + 0 ≤ n; omega⟩
  | i + 1, h, r, hr => by
    obtain ⟨p, hp, hr⟩ := List.mem_flatMap.mp hr
    obtain ⟨h1, h2, h3⟩ := lev_ok (i := i) (by omega) p hp
    exact ext_ok h1 h2 h3 (by omega) r hr
def wsum (l : Nat) (rs : List Row) : Nat := (rs.map fun r => cnt l r.2).sum
theorem wsum_append (l : Nat) (a b : List Row) : wsum l (a ++ b) = wsum l a + wsum l b := by
  unfold wsum
  rw [List.map_append, List.sum_append]
theorem wsum_range (l h : Nat) (w : List Stp) : ∀ m, wsum l ((List.range m).map fun k => ((w ++ [.num k], h) : Row)) = m * cnt l h
  | 0 => by simp [wsum]
  | m + 1 => by
    rw [List.range_succ, List.map_append, wsum_append, wsum_range l h w m]
    show m * cnt l h + (cnt l h + 0) = (m + 1) * cnt l h
    rw [Nat.add_mul]
    omega
theorem wsum_ext (left : Nat) (r : Row) : wsum left (ext left r) = cnt (left + 1) r.2 := by
  unfold ext
  rw [wsum_append, wsum_append, wsum_range]
  have e1 : wsum left (if r.2 ≤ left then [(r.1 ++ [.lone], r.2)] else []) = cnt left r.2 := by
    by_cases c : r.2 ≤ left
    · rw [if_pos c]
      exact Nat.add_zero _
    · rw [if_neg c, cnt_big (by omega)]
      rfl
  have e2 : wsum left (if r.2 < left then [(r.1 ++ [.opn], r.2 + 1)] else []) = cnt left (r.2 + 1) := by
    by_cases c : r.2 < left
    · rw [if_pos c]
      exact Nat.add_zero _
    · rw [if_neg c, cnt_big (by omega)]
      rfl
  rw [e1, e2]
  show _ = cnt left r.2 + cnt left (r.2 + 1) + r.2 * cnt left (r.2 - 1)
  omega
theorem wsum_flat (left : Nat) : ∀ rs : List Row, wsum left (rs.flatMap (ext left)) = wsum (left + 1) rs
  | [] => rfl
  | r :: t => by
    rw [List.flatMap_cons, wsum_append, wsum_ext, wsum_flat left t]
    unfold wsum
    rw [List.map_cons, List.sum_cons]
theorem lev_sum (n : Nat) : ∀ i, i ≤ n → wsum (n - i) (lev n i) = cnt n 0
  | 0, _ => by
    show cnt (n - 0) 0 + 0 = cnt n 0
    rw [Nat.sub_zero, Nat.add_zero]
  | i + 1, h => by
    show wsum (n - (i + 1)) ((lev n i).flatMap (ext (n - 1 - i))) = _
    rw [show n - (i + 1) = n - 1 - i by omega, wsum_flat, show n - 1 - i + 1 = n - i by omega]
    exact lev_sum n i (by omega)
theorem wsum_ge {l : Nat} : ∀ {rs : List Row}, (∀ r ∈ rs, r.2 ≤ l) → rs.length ≤ wsum l rs
  | [], _ => Nat.zero_le _
  | r :: t, h => by
    have h1 := wsum_ge (rs := t) fun q m => h q (List.mem_cons_of_mem _ m)
    have h2 := cnt_pos (h r List.mem_cons_self)
    show t.length + 1 ≤ cnt l r.2 + wsum l t
    omega
theorem lev_len {n i : Nat} (h : i ≤ n) : (lev n i).length ≤ cnt n 0 := by
  rw [← lev_sum n i h]
  refine wsum_ge fun r hr => ?_
  have := (lev_ok h r hr).2.2
  omega
theorem wsum_zero : ∀ {rs : List Row}, (∀ r ∈ rs, r.2 = 0) → wsum 0 rs = rs.length
  | [], _ => rfl
  | r :: t, h => by
    have h1 := wsum_zero (rs := t) fun q m => h q (List.mem_cons_of_mem _ m)
    have h2 := h r List.mem_cons_self
    show cnt 0 r.2 + wsum 0 t = t.length + 1
    rw [h1, h2]
    show 1 + t.length = t.length + 1
    omega
theorem allW_len (n : Nat) : (allW n).length = cnt n 0 := by
  unfold allW
  rw [List.length_map, ← lev_sum n n (Nat.le_refl _), Nat.sub_self]
  refine (wsum_zero fun r hr => ?_).symm
  have := (lev_ok (Nat.le_refl n) r hr).2.2
  omega
theorem allW_ok {n : Nat} {w : List Stp} (h : w ∈ allW n) : run 0 w = some 0 ∧ w.length = n := by
  obtain ⟨r, hr, e⟩ := List.mem_map.mp h
  obtain ⟨h1, h2, h3⟩ := lev_ok (Nat.le_refl n) r hr
  rw [← e]
  refine ⟨?_, h2⟩
  rw [h1, show r.2 = 0 by omega]
theorem cnt_few {n : Nat} (h : n ≤ 8) : cnt n 0 ≤ 764 := by
  have : n = 0 ∨ n = 1 ∨ n = 2 ∨ n = 3 ∨ n = 4 ∨ n = 5 ∨ n = 6 ∨ n = 7 ∨ n = 8 := by omega
  rcases this with e | e | e | e | e | e | e | e | e <;> (subst e; decide +kernel)
/-- what is appended of the rows so far -/
theorem flat_take {rs : List Row} {j left : Nat} {r : Row} (h : rs[j]? = some r) : (rs.take (j + 1)).flatMap (ext left) = (rs.take j).flatMap (ext left) ++ ext left r := by
  rw [List.take_add_one, h, List.flatMap_append]
  simp
/-! ### the table -/
def rowV (n l : Nat) : List V := (List.range (n + 2)).map fun h => V.int (cnt l h : Nat)
structure TabAt (H : Hp) (t : Addr) (n m : Nat) : Prop where
  ex : ∃ rs : List V, H t = some (.lst rs) ∧ rs.length = m ∧ ∀ l, l < m → ∃ a, rs[l]? = some (.ref a) ∧ H a = some (.lst (rowV n l))
theorem rowV_len (n l : Nat) : (rowV n l).length = n + 2 := by
  unfold rowV
  rw [List.length_map, List.length_range]
theorem rowV_at {n l h : Nat} (e : h < n + 2) : (rowV n l)[h]? = some (.int (cnt l h : Nat)) := by
  unfold rowV
  rw [List.getElem?_map, List.getElem?_range e]
  rfl
theorem TabAt.mono {H H' : Hp} {t : Addr} {n m : Nat} (e : Same H H') (h : TabAt H t n m) : TabAt H' t n m := by
  obtain ⟨rs, h1, h2, h3⟩ := h.ex
  refine ⟨rs, e _ _ h1, h2, fun l hl => ?_⟩
  obtain ⟨a, q1, q2⟩ := h3 l hl
  exact ⟨a, q1, e _ _ q2⟩
end Pg
namespace Pg
open PySem L2
/-! ### a heap without one object -/
def del (H : Hp) (r : Addr) : Hp := fun a => if a = r then none else H a
theorem del_same {H : Hp} {r : Addr} : del H r r = none := if_pos rfl
theorem del_ne {H : Hp} {r a : Addr} (h : a ≠ r) : del H r a = H a := if_neg h
theorem del_sub {H : Hp} {r : Addr} : Same (del H r) H := fun a o e => by
  by_cases c : a = r
  · subst c
    rw [del_same] at e
    cases e
  · rw [del_ne c] at e
    exact e
theorem del_upd {H : Hp} {r : Addr} {o : HO} : del (upd H r o) r = del H r := funext fun a => by
  by_cases c : a = r
  · subst c
    rw [del_same, del_same]
  · rw [del_ne c, del_ne c, upd_ne c]
theorem del_mono {H H' : Hp} {r : Addr} (h : Same H H') : Same (del H r) (del H' r) := fun a o e => by
  by_cases c : a = r
  · subst c
    rw [del_same] at e
    cases e
  · rw [del_ne c] at e
    rw [del_ne c]
    exact h _ _ e
/-- a heap that never knew it -/
theorem del_none {H H' : Hp} {r : Addr} (h : Same H H') (hr : H r = none) : Same H (del H' r) := fun a o e => by
  rw [del_ne (ne_of_none e hr)]
  exact h _ _ e
theorem del_at {H : Hp} {a r : Addr} {o : HO} (h : del H r a = some o) : a ≠ r ∧ H a = some o := by
  by_cases c : a = r
  · subst c
    rw [del_same] at h
    cases h
  · rw [del_ne c] at h
    exact ⟨c, h⟩
theorem paired_mono {α β : Type} {F G : α → β → Prop} (m : ∀ {x y}, F x y → G x y) : ∀ {xs : List α} {ys : List β}, Paired F xs ys → Paired G xs ys
  | _, _, .nil => .nil
  | _, _, .cons a b => .cons (m a) (paired_mono m b)
theorem paired_push {α β : Type} {F : α → β → Prop} {xs : List α} {ys : List β} {x : α} {y : β} (h : Paired F xs ys) (a : F x y) : Paired F (xs ++ [x]) (ys ++ [y]) := paired_append h (.cons a .nil)
/-! ### comprehensions whose elements make new objects -/
theorem yesI {σ : St} {H : Hp} {A Z : Hp → Prop} (h : A H) : tYes σ H fun b H3 => if b = true then A H3 else Z H3 := by
  show if true = true then A H else Z H
  rw [if_pos rfl]
  exact h
section
variable {K : PySem.W.Frag} {σ : St} {H : Hp} {tl te : TE} {g : TG} {vs : List Nat} {a : Addr} {xs : List V} {Q : VK} {β : Type}
theorem lcLA (R : Hp → V → β → Prop) (bs : List β) (mono : ∀ {H H' : Hp} {v : V} {b : β}, Same H H' → R H v b → R H' v b) (stab : ∀ {H : Hp} {D : Addr} {ys zs : List V} {v : V} {b : β}, H D = some (.lst ys) → R H v b → R (upd H D (.lst zs)) v b)
    (hl : ∀ Q : VK, Q (.ref a) H → tl σ H Q) (hx : SqL K H a xs) (hb : bs.length = xs.length) (hz : xs.length ≤ 40000)
    (ht : ∀ (i : Nat) (x : V) (b : β), xs[i]? = some x → bs[i]? = some b → ∀ H1, Same H H1 → ∀ (Q : VK) (Z : Hp → Prop), (∀ H2 y, Same H1 H2 → R H2 y b → Q y H2) → g x (wipe σ vs) H1 fun σ2 H2 => wipe σ2 vs = wipe σ vs ∧ tYes σ2 H2 fun b H3 => if b = true then te σ2 H3 Q else Z H3)
    (q : ∀ (H' : Hp) (p : Addr) (ys : List V), Same H H' → H p = none → H' p = some (.lst ys) → Paired (R H') ys bs → Q (.ref p) H') : tLc (iList K tl) g tYes te vs σ H Q := by
  refine hl _ ⟨a, rfl, ⟨xs, hx⟩, fun D hD => lc_list (K := K) (a := a) (xs := xs) (fun i H' => ∃ ys, Same H H' ∧ H' D = some (.lst ys) ∧ Paired (R H') ys (bs.take i)) ?_ ?_ ?_ ?_⟩
  · exact ⟨[], sm_new hD, upd_same, .nil⟩
  · rintro i H' _ ⟨ys, s, _⟩
    exact s.seq hx
  · rintro i x H' hi ⟨ys, s, hd, hp⟩
    have hil := (List.getElem?_eq_some_iff.mp hi).1
    have hbi : bs[i]? = some bs[i] := List.getElem?_eq_getElem (by omega)
    refine ht i x _ hi hbi H' s _ _ fun H2 y s2 r => ?_
    have hd2 := s2 _ _ hd
    have hlen := paired_length hp
    rw [List.length_take] at hlen
    refine ⟨ys, hd2, szl (by omega), ys ++ [y], sm_mut (s.trans s2) hD, upd_same, ?_⟩
    rw [List.take_add_one, hbi]
    exact paired_push (paired_mono (fun r => stab hd2 (mono s2 r)) hp) (stab hd2 r)
  · rintro H' ⟨ys, s, hd, hp⟩
    rw [← hb, List.take_length] at hp
    exact q H' D ys s hD hd hp
theorem lcRA {ta : TA} {n : Nat} (R : Hp → V → β → Prop) (bs : List β) (mono : ∀ {H H' : Hp} {v : V} {b : β}, Same H H' → R H v b → R H' v b) (stab : ∀ {H : Hp} {D : Addr} {ys zs : List V} {v : V} {b : β}, H D = some (.lst ys) → R H v b → R (upd H D (.lst zs)) v b)
    (hl : ∀ Q : List V → Hp → Prop, (∀ H1, Same H H1 → Q [.int (n : Int)] H1) → ta σ H Q) (hb : bs.length = n) (hz : n ≤ 40000)
    (ht : ∀ (i : Nat) (b : β), i < n → bs[i]? = some b → ∀ H1, Same H H1 → ∀ (Q : VK) (Z : Hp → Prop), (∀ H2 y, Same H1 H2 → R H2 y b → Q y H2) → g (.int (i : Int)) (wipe σ vs) H1 fun σ2 H2 => wipe σ2 vs = wipe σ vs ∧ tYes σ2 H2 fun b H3 => if b = true then te σ2 H3 Q else Z H3)
    (q : ∀ (H' : Hp) (p : Addr) (ys : List V), Same H H' → H p = none → H' p = some (.lst ys) → Paired (R H') ys bs → Q (.ref p) H') : tLc (iRng1 ta) g tYes te vs σ H Q := by
  refine hl _ fun H0 s0 => ⟨(n : Int), rfl, by omega, by omega, fun D hD0 => ?_⟩
  have hD : H D = none := s0.free hD0
  refine lc_range (lo := 0) (n := ((n : Int)).toNat) (fun i H' => ∃ ys, Same H H' ∧ H' D = some (.lst ys) ∧ Paired (R H') ys (bs.take i)) ?_ ?_ ?_
  · exact ⟨[], s0.trans (sm_new hD0), upd_same, .nil⟩
  · rintro i H' hi ⟨ys, s, hd, hp⟩
    have hi' : i < n := by omega
    have hbi : bs[i]? = some bs[i] := List.getElem?_eq_getElem (by omega)
    rw [Int.zero_add]
    refine ht i _ hi' hbi H' s _ _ fun H2 y s2 r => ?_
    have hd2 := s2 _ _ hd
    have hlen := paired_length hp
    rw [List.length_take] at hlen
    refine ⟨ys, hd2, szl (by omega), ys ++ [y], sm_mut (s.trans s2) hD, upd_same, ?_⟩
    rw [List.take_add_one, hbi]
    exact paired_push (paired_mono (fun r => stab hd2 (mono s2 r)) hp) (stab hd2 r)
  · rintro H' ⟨ys, s, hd, hp⟩
    rw [show ((n : Int)).toNat = bs.length by omega, List.take_length] at hp
    exact q H' D ys s hD hd hp
end
theorem gnE {i : Nat} {v v' : V} {σ : St} {H : Hp} {Q : St → Hp → Prop} (e : v = v') (h : gName i v' σ H Q) : gName i v σ H Q := e ▸ h
/-- a pairing stays where a list is changed -/
theorem PairingAt.stab {n : Int} {H : Hp} {D : Addr} {ys zs : List V} {v : V} {ps : List Pr} (h : H D = some (.lst ys)) (hp : PairingAt H v n ps) : PairingAt (upd H D (.lst zs)) v n ps := by
  obtain ⟨p, q, xs, rfl, h1, h2, h3⟩ := hp
  exact ⟨p, q, xs, rfl, by rw [upd_ne (ne_of h1 h (by intro z; cases z))]; exact h1, by rw [upd_ne (ne_of h2 h (by intro z; cases z))]; exact h2, upd_pairs h h3⟩
end Pg
namespace Pg
open PySem L2
/-! ### the table's rows -/
theorem rep_flat {α : Type} (x : α) : ∀ n, (List.replicate n [x]).flatten = List.replicate n x
  | 0 => rfl
  | n + 1 => by
    rw [List.replicate_succ, List.flatten_cons, rep_flat x n, List.replicate_succ]
    rfl
theorem rowV_zero (n : Nat) : rowV n 0 = [V.int 1] ++ (List.replicate (n + 1) [V.int 0]).flatten := by
  rw [rep_flat]
  unfold rowV
  rw [show n + 2 = (n + 1) + 1 by omega, List.range_succ_eq_map, List.map_cons, List.map_map]
  show V.int 1 :: _ = V.int 1 :: List.replicate (n + 1) (V.int 0)
  congr 1
  refine List.ext_getElem? fun i => ?_
  rw [List.getElem?_map]
  by_cases c : i < n + 1
  · rw [List.getElem?_range c, List.getElem?_replicate, if_pos c]
    rfl
  · rw [List.getElem?_eq_none (by rw [List.length_range]; omega), List.getElem?_eq_none (by rw [List.length_replicate]; omega)]
    rfl
/-- a row but for its last place -/
def rowI (l j : Nat) : List V := (List.range j).map fun h => V.int (cnt l h : Nat)
theorem rowI_len (l j : Nat) : (rowI l j).length = j := by
  unfold rowI
  rw [List.length_map, List.length_range]
theorem rowI_succ (l j : Nat) : rowI l (j + 1) = rowI l j ++ [V.int (cnt l j : Nat)] := by
  unfold rowI
  rw [List.range_succ, List.map_append]
  rfl
theorem rowI_all {n l : Nat} (h : l ≤ n) : rowI l (n + 1) ++ [V.int 0] = rowV n l := by
  show _ = rowI l (n + 2)
  rw [rowI_succ l (n + 1), cnt_big (by omega)]
  rfl
theorem cnt_step (i j : Nat) : (cnt i j : Int) + (cnt i (j + 1) : Int) + (if 0 < j then (j : Int) * (cnt i (j - 1) : Int) else 0) = (cnt (i + 1) j : Nat) := by
  have e : cnt (i + 1) j = cnt i j + cnt i (j + 1) + j * cnt i (j - 1) := rfl
  rw [e]
  by_cases c : 0 < j
  · rw [if_pos c]
    push_cast
    rfl
  · rw [if_neg c, show j = 0 by omega]
    push_cast
    omega
theorem tab_ne {H : Hp} {t a : Addr} {n l : Nat} {rs : List V} (hT : H t = some (.lst rs)) (hl : rs[l]? = some (.ref a)) (ha : H a = some (.lst (rowV n l))) (hn : l < n + 2) : a ≠ t := by
  intro e
  subst e
  rw [ha] at hT
  have e := HO.lst.inj (Option.some.inj hT)
  rw [← e, rowV_at hn] at hl
  cases hl
theorem at_end {xs : List V} {v : V} {m : Nat} (hl : xs.length = m + 1) (h : xs[m]? = some v) : atI xs (-1) = some v := by
  unfold atI ixN
  rw [if_neg (by decide), if_pos (by omega)]
  show xs[(-1 + (xs.length : Int)).toNat]? = some v
  rw [show (-1 + (xs.length : Int)).toNat = m by omega]
  exact h
/-! ### rows of walks in the heap -/
def RowAt (H : Hp) (v : V) (r : Row) : Prop := ∃ t l : Addr, v = .ref t ∧ H t = some (.tup [.ref l, .int (r.2 : Nat)]) ∧ H l = some (.lst (r.1.map Stp.v))
theorem RowAt.mono {H H' : Hp} {v : V} {r : Row} (e : Same H H') (h : RowAt H v r) : RowAt H' v r := by
  obtain ⟨t, l, rfl, h1, h2⟩ := h
  exact ⟨t, l, rfl, e _ _ h1, e _ _ h2⟩
theorem row_push {H2 H5 : Hp} {g t l : Addr} {ys : List V} {rows : List Row} {r : Row} (hs : Same H2 H5) (hg : H2 g = some (.lst ys)) (hp : Paired (RowAt (del H2 g)) ys rows)
    (ht : H5 t = some (.tup [.ref l, .int (r.2 : Nat)])) (hl : H5 l = some (.lst (r.1.map Stp.v))) (nl : l ≠ g) : Paired (RowAt (del (upd H5 g (.lst (ys ++ [.ref t]))) g)) (ys ++ [.ref t]) (rows ++ [r]) := by
  rw [del_upd]
  refine paired_push (paired_mono (fun q => q.mono (del_mono hs)) hp) ⟨t, l, rfl, ?_, ?_⟩
  · rw [del_ne (ne_of ht (hs _ _ hg) (by intro z; cases z))]
    exact ht
  · rw [del_ne nl]
    exact hl
theorem inv_up (i : Nat) : (inv (i + 1) : Int) + ((i + 1 : Nat) : Int) * (inv i : Int) = (inv (i + 2) : Nat) := by
  show _ = ((inv (i + 1) + (i + 1) * inv i : Nat) : Int)
  push_cast
  rfl
def invV (m : Nat) : List V := (List.range m).map fun k => V.int (inv k : Nat)
theorem invV_len (m : Nat) : (invV m).length = m := by
  unfold invV
  rw [List.length_map, List.length_range]
theorem invV_at {m k : Nat} (h : k < m) : (invV m)[k]? = some (.int (inv k : Nat)) := by
  unfold invV
  rw [List.getElem?_map, List.getElem?_range h]
  rfl
theorem invV_succ (m : Nat) : invV (m + 1) = invV m ++ [V.int (inv m : Nat)] := by
  unfold invV
  rw [List.range_succ, List.map_append]
  rfl
end Pg
namespace Pg
open PySem L2
/-! ### points and their partners -/
def pts (ps : List Pr) : List Int := ps.flatMap fun q => [q.1, q.2]
theorem pts_cons (q : Pr) (r : List Pr) : pts (q :: r) = q.1 :: q.2 :: pts r := rfl
theorem mem_pts {ps : List Pr} {x : Int} : x ∈ pts ps ↔ ∃ q ∈ ps, x = q.1 ∨ x = q.2 := by
  unfold pts
  rw [List.mem_flatMap]
  constructor
  · rintro ⟨q, hq, hx⟩
    exact ⟨q, hq, by simpa using hx⟩
  · rintro ⟨q, hq, hx⟩
    exact ⟨q, hq, by simpa using hx⟩
theorem pts_perm {ps qs : List Pr} (h : ps.Perm qs) : (pts ps).Perm (pts qs) := h.flatMap_right _
theorem clo_pts : ∀ (ws : List Stp) (p : Int) (os : List Int) {h : Nat}, Asc p os → run os.length ws = some h → (pts (clo p os ws)).Nodup ∧ ∀ x ∈ pts (clo p os ws), (x ∈ os ∨ p ≤ x) ∧ x < p + ws.length
  | [], p, os, h, _, _ => ⟨List.Pairwise.nil, fun x m => absurd m List.not_mem_nil⟩
  | .lone :: r, p, os, h, a, e => by
    obtain ⟨h1, h2⟩ := clo_pts r (p + 1) os a.lone e
    refine ⟨h1, fun x m => ?_⟩
    obtain ⟨z, z2⟩ := h2 x m
    rw [List.length_cons]
    exact ⟨z.imp id fun q => by omega, by omega⟩
  | .opn :: r, p, os, h, a, e => by
    obtain ⟨h1, h2⟩ := clo_pts r (p + 1) (os ++ [p]) a.opn (by rw [List.length_append]; exact e)
    refine ⟨h1, fun x m => ?_⟩
    obtain ⟨z, z2⟩ := h2 x m
    rw [List.length_cons]
    refine ⟨?_, by omega⟩
    rcases z with z | z
    · rcases List.mem_append.mp z with z | z
      · exact .inl z
      · rw [List.mem_singleton.mp z]
        exact .inr (Int.le_refl _)
    · exact .inr (by omega)
  | .num k :: r, p, os, h, a, e => by
    have e2 : (if k < os.length then run (os.length - 1) r else none) = some h := e
    by_cases c : k < os.length
    · rw [if_pos c] at e2
      obtain ⟨h1, h2⟩ := clo_pts r (p + 1) (os.eraseIdx k) (a.num k) (by rw [List.length_eraseIdx, if_pos c]; exact e2)
      have hm : os.getD k 0 ∈ os := by
        rw [List.getD_eq_getElem?_getD, List.getElem?_eq_getElem c]
        exact List.getElem_mem c
      have hlt := a.2 _ hm
      have n1 : os.getD k 0 ∉ pts (clo (p + 1) (os.eraseIdx k) r) := fun m => by
        rcases (h2 _ m).1 with z | z
        · rw [← filter_ne_eraseIdx os k a.nodup c] at z
          have := (List.mem_filter.mp z).2
          simp at this
        · omega
      have n2 : p ∉ pts (clo (p + 1) (os.eraseIdx k) r) := fun m => by
        rcases (h2 _ m).1 with z | z
        · have := a.2 _ (List.mem_of_mem_eraseIdx z)
          omega
        · omega
      refine ⟨?_, fun x m => ?_⟩
      · show (os.getD k 0 :: p :: pts (clo (p + 1) (os.eraseIdx k) r)).Nodup
        refine List.nodup_cons.mpr ⟨fun m => ?_, List.nodup_cons.mpr ⟨n2, h1⟩⟩
        rcases List.mem_cons.mp m with m | m
        · omega
        · exact n1 m
      · have m2 : x ∈ os.getD k 0 :: p :: pts (clo (p + 1) (os.eraseIdx k) r) := m
        rw [List.length_cons]
        rcases List.mem_cons.mp m2 with m | m
        · rw [m]
          exact ⟨.inl hm, by omega⟩
        · rcases List.mem_cons.mp m with m | m
          · rw [m]
            exact ⟨.inr (Int.le_refl _), by omega⟩
          · obtain ⟨z, z2⟩ := h2 x m
            refine ⟨?_, by omega⟩
            rcases z with z | z
            · exact .inl (List.mem_of_mem_eraseIdx z)
            · exact .inr (by omega)
    · rw [if_neg c] at e2
      cases e2
/-- what is open is closed, where none is left open -/
theorem clo_closed : ∀ (ws : List Stp) (p : Int) (os : List Int), run os.length ws = some 0 → ∀ o ∈ os, ∃ b, (o, b) ∈ clo p os ws ∧ p ≤ b
  | [], p, os, e, o, m => by
    have e1 : os.length = 0 := Option.some.inj e
    rw [List.length_eq_zero_iff.mp e1] at m
    exact absurd m List.not_mem_nil
  | .lone :: r, p, os, e, o, m => by
    obtain ⟨b, hb, z⟩ := clo_closed r (p + 1) os e o m
    exact ⟨b, hb, by omega⟩
  | .opn :: r, p, os, e, o, m => by
    obtain ⟨b, hb, z⟩ := clo_closed r (p + 1) (os ++ [p]) (by rw [List.length_append]; exact e) o (List.mem_append_left _ m)
    exact ⟨b, hb, by omega⟩
  | .num k :: r, p, os, e, o, m => by
    have e2 : (if k < os.length then run (os.length - 1) r else none) = some 0 := e
    by_cases c : k < os.length
    · rw [if_pos c] at e2
      by_cases q : o = os.getD k 0
      · exact ⟨p, by rw [q]; exact List.mem_cons_self, Int.le_refl _⟩
      · have hm : o ∈ os.eraseIdx k := by
          obtain ⟨i, hi, ei⟩ := List.mem_iff_getElem.mp m
          have ne : i ≠ k := by
            intro z
            apply q
            rw [List.getD_eq_getElem?_getD, List.getElem?_eq_getElem c, ← ei]
            subst z
            rfl
          exact List.mem_eraseIdx_iff_getElem?.mpr ⟨i, ne, by rw [List.getElem?_eq_getElem hi, ei]⟩
        obtain ⟨b, hb, z⟩ := clo_closed r (p + 1) (os.eraseIdx k) (by rw [List.length_eraseIdx, if_pos c]; exact e2) o hm
        exact ⟨b, List.mem_cons_of_mem _ hb, by omega⟩
    · rw [if_neg c] at e2
      cases e2
/-- what stands at each point: none, or the partner -/
def mateStep (l : List V) (p : Pr) : List V := (l.set p.1.toNat (.int p.2)).set p.2.toNat (.int p.1)
def mateV (n : Int) (ps : List Pr) : List V := ps.foldl mateStep (List.replicate n.toNat .non)
theorem mateStep_len (l : List V) (p : Pr) : (mateStep l p).length = l.length := by
  unfold mateStep
  rw [List.length_set, List.length_set]
theorem mateF_len : ∀ (ps : List Pr) (l : List V), (ps.foldl mateStep l).length = l.length
  | [], l => rfl
  | p :: r, l => by
    show (r.foldl mateStep (mateStep l p)).length = _
    rw [mateF_len r, mateStep_len]
theorem mateV_len (n : Int) (ps : List Pr) : (mateV n ps).length = n.toNat := by
  unfold mateV
  rw [mateF_len, List.length_replicate]
theorem mate_other : ∀ (ps : List Pr) (l : List V) (i : Nat), (i : Int) ∉ pts ps → (∀ x ∈ pts ps, 0 ≤ x) → (ps.foldl mateStep l)[i]? = l[i]?
  | [], l, i, _, _ => rfl
  | p :: r, l, i, h, h0 => by
    show (r.foldl mateStep (mateStep l p))[i]? = _
    rw [pts_cons] at h h0
    have a := h0 p.1 List.mem_cons_self
    have b := h0 p.2 (List.mem_cons_of_mem _ List.mem_cons_self)
    have e1 : i ≠ p.1.toNat := fun e => h (by rw [e, Int.toNat_of_nonneg a]; exact List.mem_cons_self)
    have e2 : i ≠ p.2.toNat := fun e => h (by rw [e, Int.toNat_of_nonneg b]; exact List.mem_cons_of_mem _ List.mem_cons_self)
    rw [mate_other r _ i (fun m => h (List.mem_cons_of_mem _ (List.mem_cons_of_mem _ m))) (fun x m => h0 x (List.mem_cons_of_mem _ (List.mem_cons_of_mem _ m)))]
    unfold mateStep
    rw [List.getElem?_set_ne (Ne.symm e2), List.getElem?_set_ne (Ne.symm e1)]
theorem mate_mem : ∀ (ps : List Pr) (l : List V), (pts ps).Nodup → (∀ x ∈ pts ps, 0 ≤ x ∧ x < l.length) → ∀ q ∈ ps, (ps.foldl mateStep l)[q.1.toNat]? = some (.int q.2) ∧ (ps.foldl mateStep l)[q.2.toNat]? = some (.int q.1)
  | [], l, _, _, q, m => absurd m List.not_mem_nil
  | p :: r, l, nd, h0, q, m => by
    show (r.foldl mateStep (mateStep l p))[q.1.toNat]? = _ ∧ (r.foldl mateStep (mateStep l p))[q.2.toNat]? = _
    rw [pts_cons] at nd h0
    obtain ⟨n1, nd2⟩ := List.nodup_cons.mp nd
    obtain ⟨n2, nd3⟩ := List.nodup_cons.mp nd2
    have a := h0 p.1 List.mem_cons_self
    have b := h0 p.2 (List.mem_cons_of_mem _ List.mem_cons_self)
    have hr : ∀ x ∈ pts r, 0 ≤ x := fun x m => (h0 x (List.mem_cons_of_mem _ (List.mem_cons_of_mem _ m))).1
    rcases List.mem_cons.mp m with e | m
    · subst e
      have ne : q.1 ≠ q.2 := fun e => n1 (by rw [e]; exact List.mem_cons_self)
      have n3 : ((q.1.toNat : Nat) : Int) ∉ pts r := by
        rw [Int.toNat_of_nonneg a.1]
        exact fun m => n1 (List.mem_cons_of_mem _ m)
      have n4 : ((q.2.toNat : Nat) : Int) ∉ pts r := by
        rw [Int.toNat_of_nonneg b.1]
        exact n2
      rw [mate_other r _ _ n3 hr, mate_other r _ _ n4 hr]
      unfold mateStep
      constructor
      · rw [List.getElem?_set_ne (by omega), List.getElem?_set_self (by omega)]
      · rw [List.getElem?_set_self (by rw [List.length_set]; omega)]
    · refine mate_mem r _ nd3 (fun x mx => ?_) q m
      rw [mateStep_len]
      exact h0 x (List.mem_cons_of_mem _ (List.mem_cons_of_mem _ mx))
/-- the partners in a walk's pairing -/
theorem prs_pts {ws : List Stp} {h : Nat} (r : run 0 ws = some h) : (pts (prs ws)).Nodup ∧ ∀ x ∈ pts (prs ws), 0 ≤ x ∧ x < ws.length := by
  obtain ⟨h1, h2⟩ := clo_pts ws 0 [] (asc_nil 0) r
  have pm := pts_perm (prs_perm ws)
  refine ⟨pm.nodup_iff.mpr h1, fun x m => ?_⟩
  obtain ⟨z, z2⟩ := h2 x (pm.mem_iff.mp m)
  refine ⟨?_, by omega⟩
  rcases z with z | z
  · exact absurd z List.not_mem_nil
  · exact z
theorem clo_split {ws : List Stp} {i : Nat} {st : Stp} (hi : ws[i]? = some st) : clo 0 [] ws = prAt ws i ++ clo (i : Int) (osAt ws i) (st :: ws.drop (i + 1)) := by
  have hl := (List.getElem?_eq_some_iff.mp hi).1
  have ed : ws.drop i = st :: ws.drop (i + 1) := by
    rw [List.drop_eq_getElem_cons hl, (List.getElem?_eq_some_iff.mp hi).2]
  have e : ws = ws.take i ++ (st :: ws.drop (i + 1)) := by
    rw [← ed]
    exact (List.take_append_drop i ws).symm
  have q : clo 0 [] (ws.take i ++ (st :: ws.drop (i + 1))) = _ := clo_append 0 [] (ws.take i) (st :: ws.drop (i + 1))
  rw [take_len hi, Int.zero_add] at q
  rw [← e] at q
  exact q
theorem run_drop {ws : List Stp} {i h : Nat} {st : Stp} (r : run 0 ws = some h) (hi : ws[i]? = some st) : run (osAt ws i).length (st :: ws.drop (i + 1)) = some h := by
  have hl := (List.getElem?_eq_some_iff.mp hi).1
  have ed : ws.drop i = st :: ws.drop (i + 1) := by
    rw [List.drop_eq_getElem_cons hl, (List.getElem?_eq_some_iff.mp hi).2]
  obtain ⟨h', r', _⟩ := run_take r hi
  have e1 := opens_len (ws.take i) 0 [] r'
  have r2 := r
  rw [← List.take_append_drop i ws, run_append, r', ed] at r2
  show run (opens 0 [] (ws.take i)).length _ = _
  rw [e1]
  exact r2
theorem mate_lone {ws : List Stp} {h i : Nat} (r : run 0 ws = some h) (hi : ws[i]? = some .lone) : (mateV (ws.length : Int) (prs ws))[i]? = some .non := by
  have hl := (List.getElem?_eq_some_iff.mp hi).1
  obtain ⟨h1, h2⟩ := prs_pts r
  unfold mateV
  rw [mate_other _ _ _ (fun m => ?_) (fun x m => (h2 x m).1)]
  · rw [List.getElem?_replicate, if_pos (by omega)]
  · have m1 := (pts_perm (prs_perm ws)).mem_iff.mp m
    rw [clo_split hi] at m1
    have m2 : (i : Int) ∈ pts (prAt ws i) ∨ (i : Int) ∈ pts (clo (i : Int) (osAt ws i) (.lone :: ws.drop (i + 1))) := by
      obtain ⟨q, hq, z⟩ := mem_pts.mp m1
      rcases List.mem_append.mp hq with hq | hq
      · exact .inl (mem_pts.mpr ⟨q, hq, z⟩)
      · exact .inr (mem_pts.mpr ⟨q, hq, z⟩)
    obtain ⟨h', r', _⟩ := run_take r hi
    have tl := take_len hi
    rcases m2 with m2 | m2
    · have := ((clo_pts (ws.take i) 0 [] (asc_nil 0) r').2 _ m2).2
      omega
    · have asc := osAt_asc ws i
      rw [tl] at asc
      have rd : run (osAt ws i).length (ws.drop (i + 1)) = some h := run_drop r hi
      have := ((clo_pts (ws.drop (i + 1)) ((i : Int) + 1) (osAt ws i) asc.lone rd).2 _ m2).1
      rcases this with z | z
      · have := asc.2 _ z
        omega
      · omega
theorem mate_num {ws : List Stp} {h i k : Nat} (r : run 0 ws = some h) (hi : ws[i]? = some (.num k)) : (mateV (ws.length : Int) (prs ws))[i]? = some (.int ((osAt ws i).getD k 0)) := by
  obtain ⟨h1, h2⟩ := prs_pts r
  have m : (((osAt ws i).getD k 0, (i : Int)) : Pr) ∈ prs ws := (prs_perm ws).mem_iff.mpr (by
    rw [clo_split hi]
    exact List.mem_append_right _ List.mem_cons_self)
  have q := (mate_mem (prs ws) (List.replicate ((ws.length : Int)).toNat .non) h1 (fun x mx => by
    have := h2 x mx
    rw [List.length_replicate]
    omega) _ m).2
  exact q
theorem mate_opn {ws : List Stp} {i : Nat} (r : run 0 ws = some 0) (hi : ws[i]? = some .opn) : ∃ b : Int, (i : Int) < b ∧ (mateV (ws.length : Int) (prs ws))[i]? = some (.int b) := by
  obtain ⟨h1, h2⟩ := prs_pts r
  have rd := run_drop r hi
  have rd2 : run (osAt ws i ++ [(i : Int)]).length (ws.drop (i + 1)) = some 0 := by
    rw [List.length_append]
    exact rd
  obtain ⟨b, hb, hlt⟩ := clo_closed (ws.drop (i + 1)) ((i : Int) + 1) (osAt ws i ++ [(i : Int)]) rd2 (i : Int) (List.mem_append_right _ (List.mem_singleton.mpr rfl))
  have m : (((i : Int), b) : Pr) ∈ prs ws := (prs_perm ws).mem_iff.mpr (by
    rw [clo_split hi]
    exact List.mem_append_right _ hb)
  have q := (mate_mem (prs ws) (List.replicate ((ws.length : Int)).toNat .non) h1 (fun x mx => by
    have := h2 x mx
    rw [List.length_replicate]
    omega) _ m).1
  exact ⟨b, by omega, q⟩
end Pg
namespace Pg
open PySem L2
/-! ### what a walk can do next, and all walks in order -/
abbrev Opt := Stp × Nat
def nums (h : Nat) : List Opt := (List.range h).map fun k => (Stp.num k, h - 1)
def opts (h : Nat) : List Opt := (.lone, h) :: (.opn, h + 1) :: nums h
def enum : Nat → Nat → List (List Stp)
  | 0, h => if h = 0 then [[]] else []
  | l + 1, h => (opts h).flatMap fun o => (enum l o.2).map (o.1 :: ·)
def tot (l : Nat) (os : List Opt) : Nat := (os.map fun o => cnt l o.2).sum
theorem tot_cons (l : Nat) (o : Opt) (os : List Opt) : tot l (o :: os) = cnt l o.2 + tot l os := by
  unfold tot
  rw [List.map_cons, List.sum_cons]
theorem tot_nums (l h c : Nat) : ∀ m, tot l ((List.range m).map fun k => (Stp.num k, c)) = m * cnt l c
  | 0 => by simp [tot]
  | m + 1 => by
    have ih := tot_nums l h c m
    unfold tot at ih ⊢
    rw [List.range_succ, List.map_append, List.map_append, List.sum_append, ih]
    show m * cnt l c + (cnt l c + 0) = (m + 1) * cnt l c
    rw [Nat.add_mul]
    omega
theorem tot_opts (l h : Nat) : tot l (opts h) = cnt (l + 1) h := by
  unfold opts
  rw [tot_cons, tot_cons]
  show cnt l h + (cnt l (h + 1) + tot l (nums h)) = cnt l h + cnt l (h + 1) + h * cnt l (h - 1)
  unfold nums
  rw [tot_nums l h]
  omega
theorem enum_len : ∀ l h, (enum l h).length = cnt l h
  | 0, h => by
    show (if h = 0 then [[]] else [] : List (List Stp)).length = if h = 0 then 1 else 0
    split <;> rfl
  | l + 1, h => by
    rw [← tot_opts]
    show ((opts h).flatMap fun o => (enum l o.2).map (o.1 :: ·)).length = tot l (opts h)
    generalize opts h = os
    induction os with
    | nil => rfl
    | cons o r ih =>
      rw [List.flatMap_cons, List.length_append, List.length_map, ih, tot_cons, enum_len l o.2]
def pick (l : Nat) : List Opt → Nat → Stp × Nat × Nat
  | [], _ => (.lone, 0, 0)
  | o :: r, j => if j < cnt l o.2 then (o.1, o.2, j) else pick l r (j - cnt l o.2)
def unr : Nat → Nat → Nat → List Stp
  | 0, _, _ => []
  | l + 1, h, j => (pick l (opts h) j).1 :: unr l (pick l (opts h) j).2.1 (pick l (opts h) j).2.2
theorem pick_mem {l : Nat} : ∀ {os : List Opt} {j : Nat}, j < tot l os → ((pick l os j).1, (pick l os j).2.1) ∈ os ∧ (pick l os j).2.2 < cnt l (pick l os j).2.1
  | [], j, h => absurd h (Nat.not_lt_zero _)
  | o :: r, j, h => by
    unfold pick
    by_cases c : j < cnt l o.2
    · rw [if_pos c]
      exact ⟨List.mem_cons_self, c⟩
    · rw [if_neg c]
      rw [tot_cons] at h
      obtain ⟨h1, h2⟩ := pick_mem (l := l) (os := r) (j := j - cnt l o.2) (by omega)
      exact ⟨List.mem_cons_of_mem _ h1, h2⟩
theorem enum_get : ∀ {l h j : Nat}, j < cnt l h → (enum l h)[j]? = some (unr l h j)
  | 0, h, j, e => by
    have e2 : j < (if h = 0 then 1 else 0) := e
    by_cases c : h = 0
    · rw [if_pos c] at e2
      have z : j = 0 := by omega
      subst z
      show (if h = 0 then [[]] else [] : List (List Stp))[0]? = some []
      rw [if_pos c]
      rfl
    · rw [if_neg c] at e2
      omega
  | l + 1, h, j, e => by
    rw [← tot_opts] at e
    show ((opts h).flatMap fun o => (enum l o.2).map (o.1 :: ·))[j]? = some ((pick l (opts h) j).1 :: unr l (pick l (opts h) j).2.1 (pick l (opts h) j).2.2)
    revert e
    generalize opts h = os
    intro e
    induction os generalizing j with
    | nil => exact absurd e (Nat.not_lt_zero _)
    | cons o r ih =>
      rw [List.flatMap_cons]
      unfold pick
      by_cases c : j < cnt l o.2
      · rw [if_pos c, List.getElem?_append_left (by rw [List.length_map, enum_len]; exact c), List.getElem?_map, enum_get c]
        rfl
      · rw [if_neg c]
        rw [tot_cons] at e
        rw [List.getElem?_append_right (by rw [List.length_map, enum_len]; omega), List.length_map, enum_len]
        exact ih (j - cnt l o.2) (by omega)
theorem opt_run {h : Nat} {o : Opt} (m : o ∈ opts h) (w : List Stp) : run h (o.1 :: w) = run o.2 w := by
  unfold opts nums at m
  rcases List.mem_cons.mp m with e | m
  · subst e
    rfl
  · rcases List.mem_cons.mp m with e | m
    · subst e
      rfl
    · obtain ⟨k, hk, e⟩ := List.mem_map.mp m
      have hk := List.mem_range.mp hk
      subst e
      show (if k < h then run (h - 1) w else none) = run (h - 1) w
      rw [if_pos hk]
theorem unr_run : ∀ {l h j : Nat}, j < cnt l h → run h (unr l h j) = some 0 ∧ (unr l h j).length = l
  | 0, h, j, e => by
    have e2 : j < (if h = 0 then 1 else 0) := e
    by_cases c : h = 0
    · subst c
      exact ⟨rfl, rfl⟩
    · rw [if_neg c] at e2
      omega
  | l + 1, h, j, e => by
    rw [← tot_opts] at e
    obtain ⟨h1, h2⟩ := pick_mem e
    obtain ⟨r1, r2⟩ := unr_run h2
    refine ⟨?_, ?_⟩
    · show run h ((pick l (opts h) j).1 :: unr l (pick l (opts h) j).2.1 (pick l (opts h) j).2.2) = some 0
      rw [← r1]
      exact opt_run h1 _
    · show (unr l (pick l (opts h) j).2.1 (pick l (opts h) j).2.2).length + 1 = l + 1
      rw [r2]
theorem enum_nil : ∀ {l h : Nat}, l < h → enum l h = [] := fun e => List.length_eq_zero_iff.mp (by rw [enum_len, cnt_big e])
theorem lev_enum (n : Nat) : ∀ i, i ≤ n → ((lev n i).flatMap fun r => (enum (n - i) r.2).map (r.1 ++ ·)) = enum n 0
  | 0, _ => by
    show ((enum (n - 0) 0).map ([] ++ ·)) ++ [] = enum n 0
    rw [List.append_nil, Nat.sub_zero]
    simp
  | i + 1, h => by
    rw [← lev_enum n i (by omega)]
    show (((lev n i).flatMap (ext (n - 1 - i))).flatMap fun r => (enum (n - (i + 1)) r.2).map (r.1 ++ ·)) = _
    rw [List.flatMap_assoc]
    congr 1
    funext r
    obtain ⟨w, c⟩ := r
    have el : n - (i + 1) = n - 1 - i := by omega
    have er : n - i = n - 1 - i + 1 := by omega
    rw [el, er]
    generalize n - 1 - i = l
    show ((ext l (w, c)).flatMap fun r => (enum l r.2).map (r.1 ++ ·)) = ((opts c).flatMap fun o => (enum l o.2).map (o.1 :: ·)).map (w ++ ·)
    unfold ext opts nums
    rw [List.flatMap_append, List.flatMap_append, List.flatMap_cons, List.flatMap_cons, List.map_append, List.map_append, List.map_map, List.map_map]
    have app : ∀ (st : Stp), ((fun x => w ++ x) ∘ fun x => st :: x) = fun x => (w ++ [st]) ++ x := fun st => by
      funext x
      show w ++ st :: x = (w ++ [st]) ++ x
      rw [List.append_assoc]
      rfl
    refine congr (congrArg _ ?_) (congr (congrArg _ ?_) ?_)
    · by_cases z : c ≤ l
      · rw [if_pos z, app]
        show (enum l c).map _ ++ [] = _
        rw [List.append_nil]
      · rw [if_neg z]
        show [] = (enum l c).map _
        rw [enum_nil (by omega)]
        rfl
    · by_cases z : c < l
      · rw [if_pos z, app]
        show (enum l (c + 1)).map _ ++ [] = _
        rw [List.append_nil]
      · rw [if_neg z]
        show [] = (enum l (c + 1)).map _
        rw [enum_nil (by omega)]
        rfl
    · generalize List.range c = ks
      induction ks with
      | nil => rfl
      | cons k ks ih =>
        rw [List.map_cons, List.map_cons, List.flatMap_cons, List.flatMap_cons, List.map_append, ih, List.map_map, app]
theorem flat_single : ∀ (rs : List Row), (∀ r ∈ rs, r.2 = 0) → (rs.flatMap fun r => (enum 0 r.2).map (r.1 ++ ·)) = rs.map Prod.fst
  | [], _ => rfl
  | r :: t, h => by
    rw [List.flatMap_cons, flat_single t fun q m => h q (List.mem_cons_of_mem _ m), h r List.mem_cons_self]
    show [r.1 ++ []] ++ _ = _
    rw [List.append_nil]
    rfl
theorem allW_enum (n : Nat) : allW n = enum n 0 := by
  rw [← lev_enum n n (Nat.le_refl n), Nat.sub_self, flat_single]
  · rfl
  · intro r hr
    have := (lev_ok (Nat.le_refl n) r hr).2.2
    omega
theorem allW_unr (n : Nat) : allW n = (List.range (cnt n 0)).map (unr n 0) := by
  rw [allW_enum]
  refine List.ext_getElem? fun j => ?_
  rw [List.getElem?_map]
  by_cases c : j < cnt n 0
  · rw [enum_get c, List.getElem?_range c]
    rfl
  · rw [List.getElem?_eq_none (by rw [enum_len]; omega), List.getElem?_eq_none (by rw [List.length_range]; omega)]
    rfl
/-! ### the number of a walk -/
def off (l : Nat) : List Opt → Stp → Nat
  | [], _ => 0
  | o :: r, st => if o.1 = st then 0 else cnt l o.2 + off l r st
def beh (h : Nat) : Stp → Nat
  | .lone => h
  | .opn => h + 1
  | .num _ => h - 1
def rk : Nat → List Stp → Nat
  | _, [] => 0
  | h, st :: r => off r.length (opts h) st + rk (beh h st) r
theorem pick_off {l : Nat} {st : Stp} {b : Nat} : ∀ {os : List Opt} {j : Nat}, (st, b) ∈ os → (∀ o ∈ os, o.1 = st → o.2 = b) → j < cnt l b → pick l os (off l os st + j) = (st, b, j)
  | [], j, m, _, _ => absurd m List.not_mem_nil
  | o :: r, j, m, u, e => by
    unfold pick off
    by_cases c : o.1 = st
    · have eb := u o List.mem_cons_self c
      rw [if_pos c, eb, Nat.zero_add, if_pos e, c]
    · rw [if_neg c, if_neg (by omega), show cnt l o.2 + off l r st + j - cnt l o.2 = off l r st + j by omega]
      refine pick_off ?_ (fun q m => u q (List.mem_cons_of_mem _ m)) e
      rcases List.mem_cons.mp m with z | z
      · exact absurd (by rw [← z]) c
      · exact z
theorem off_pick {l : Nat} : ∀ {os : List Opt} {j : Nat}, j < tot l os → (os.map Prod.fst).Nodup → off l os (pick l os j).1 + (pick l os j).2.2 = j
  | [], j, h, _ => absurd h (Nat.not_lt_zero _)
  | o :: r, j, h, nd => by
    rw [List.map_cons, List.nodup_cons] at nd
    rw [tot_cons] at h
    unfold pick
    by_cases c : j < cnt l o.2
    · rw [if_pos c]
      unfold off
      rw [if_pos rfl]
      exact Nat.zero_add _
    · rw [if_neg c]
      have h1 : j - cnt l o.2 < tot l r := by omega
      have ih := off_pick h1 nd.2
      have hm := (pick_mem h1).1
      unfold off
      rw [if_neg fun e => nd.1 (List.mem_map.mpr ⟨_, hm, e.symm⟩)]
      omega
theorem opts_nodup (h : Nat) : ((opts h).map Prod.fst).Nodup := by
  unfold opts nums
  rw [List.map_cons, List.map_cons, List.map_map]
  refine List.nodup_cons.mpr ⟨fun m => ?_, List.nodup_cons.mpr ⟨fun m => ?_, ?_⟩⟩
  · rcases List.mem_cons.mp m with e | m
    · cases e
    · obtain ⟨k, _, e⟩ := List.mem_map.mp m
      cases e
  · obtain ⟨k, _, e⟩ := List.mem_map.mp m
    cases e
  · refine List.pairwise_map.mpr ((List.nodup_range (n := h)).imp fun {a b} ne e => ne ?_)
    exact Stp.num.inj e
theorem opts_beh {h : Nat} {o : Opt} (m : o ∈ opts h) : o.2 = beh h o.1 := by
  unfold opts nums at m
  rcases List.mem_cons.mp m with e | m
  · subst e
    rfl
  · rcases List.mem_cons.mp m with e | m
    · subst e
      rfl
    · obtain ⟨k, hk, e⟩ := List.mem_map.mp m
      subst e
      rfl
theorem opts_has {h h' : Nat} {st : Stp} {r : List Stp} (e : run h (st :: r) = some h') : (st, beh h st) ∈ opts h ∧ run (beh h st) r = some h' := by
  unfold opts nums
  cases st with
  | lone => exact ⟨List.mem_cons_self, e⟩
  | opn => exact ⟨List.mem_cons_of_mem _ List.mem_cons_self, e⟩
  | num k =>
    have e2 : (if k < h then run (h - 1) r else none) = some h' := e
    by_cases c : k < h
    · rw [if_pos c] at e2
      exact ⟨List.mem_cons_of_mem _ (List.mem_cons_of_mem _ (List.mem_map.mpr ⟨k, List.mem_range.mpr c, rfl⟩)), e2⟩
    · rw [if_neg c] at e2
      cases e2
theorem off_lt {l : Nat} {st : Stp} {b j : Nat} : ∀ {os : List Opt}, (st, b) ∈ os → (∀ o ∈ os, o.1 = st → o.2 = b) → j < cnt l b → off l os st + j < tot l os
  | [], m, _, _ => absurd m List.not_mem_nil
  | o :: r, m, u, e => by
    rw [tot_cons]
    unfold off
    by_cases c : o.1 = st
    · have eb := u o List.mem_cons_self c
      rw [if_pos c, eb]
      omega
    · rw [if_neg c]
      have ih := off_lt (l := l) (st := st) (b := b) (j := j) (os := r) (by
        rcases List.mem_cons.mp m with z | z
        · exact absurd (by rw [← z]) c
        · exact z) (fun q m => u q (List.mem_cons_of_mem _ m)) e
      omega
theorem rk_ok : ∀ {ws : List Stp} {h : Nat}, run h ws = some 0 → rk h ws < cnt ws.length h ∧ unr ws.length h (rk h ws) = ws
  | [], h, e => by
    have e : h = 0 := Option.some.inj e
    subst e
    exact ⟨by show 0 < (if 0 = 0 then 1 else 0); decide, rfl⟩
  | st :: r, h, e => by
    obtain ⟨hm, hr⟩ := opts_has e
    obtain ⟨h1, h2⟩ := rk_ok hr
    have u : ∀ o ∈ opts h, o.1 = st → o.2 = beh h st := fun o m e => by rw [opts_beh m, e]
    refine ⟨?_, ?_⟩
    · show off r.length (opts h) st + rk (beh h st) r < cnt (r.length + 1) h
      rw [← tot_opts]
      exact off_lt hm u h1
    · show (pick r.length (opts h) (off r.length (opts h) st + rk (beh h st) r)).1 :: unr r.length (pick r.length (opts h) (off r.length (opts h) st + rk (beh h st) r)).2.1 (pick r.length (opts h) (off r.length (opts h) st + rk (beh h st) r)).2.2 = st :: r
      rw [pick_off hm u h1, h2]
theorem rk_unr : ∀ {l h j : Nat}, j < cnt l h → rk h (unr l h j) = j
  | 0, h, j, e => by
    have e2 : j < (if h = 0 then 1 else 0) := e
    by_cases c : h = 0
    · rw [if_pos c] at e2
      show 0 = j
      omega
    · rw [if_neg c] at e2
      omega
  | l + 1, h, j, e => by
    rw [← tot_opts] at e
    obtain ⟨h1, h2⟩ := pick_mem e
    have q := off_pick e (opts_nodup h)
    have ih := rk_unr h2
    have el := (unr_run h2).2
    show off (unr l (pick l (opts h) j).2.1 (pick l (opts h) j).2.2).length (opts h) (pick l (opts h) j).1 + rk (beh h (pick l (opts h) j).1) (unr l (pick l (opts h) j).2.1 (pick l (opts h) j).2.2) = j
    rw [el, ← show (pick l (opts h) j).2.1 = beh h (pick l (opts h) j).1 from opts_beh h1, ih]
    exact q
/-- as the law reckons -/
theorem off_lone (l h : Nat) : off l (opts h) .lone = 0 := by
  unfold opts off
  rw [if_pos rfl]
theorem off_opn (l h : Nat) : off l (opts h) .opn = cnt l h := by
  unfold opts off
  rw [if_neg (by intro z; cases z)]
  unfold off
  rw [if_pos rfl]
  rfl
theorem off_nums (l c : Nat) : ∀ (m a k : Nat), a ≤ k → k < a + m → off l ((List.range' a m).map fun k => (Stp.num k, c)) (.num k) = (k - a) * cnt l c
  | 0, a, k, h1, h2 => by omega
  | m + 1, a, k, h1, h2 => by
    rw [List.range'_succ, List.map_cons]
    unfold off
    by_cases e : a = k
    · subst e
      rw [if_pos rfl, Nat.sub_self, Nat.zero_mul]
    · rw [if_neg fun z => e (Stp.num.inj z), off_nums l c m (a + 1) k (by omega) (by omega)]
      show cnt l c + (k - (a + 1)) * cnt l c = (k - a) * cnt l c
      rw [show k - a = (k - (a + 1)) + 1 by omega, Nat.add_mul]
      omega
theorem off_num {l h k : Nat} (hk : k < h) : off l (opts h) (.num k) = cnt l h + cnt l (h + 1) + k * cnt l (h - 1) := by
  unfold opts off
  rw [if_neg (by intro z; cases z)]
  unfold off
  rw [if_neg (by intro z; cases z)]
  have e := off_nums l (h - 1) h 0 k (Nat.zero_le _) (by omega)
  rw [← List.range_eq_range'] at e
  unfold nums
  rw [e, Nat.sub_zero]
  show cnt l h + (cnt l (h + 1) + _) = _
  omega
/-! ### in the heap -/
def OptAt (H : Hp) (v : V) (o : Opt) : Prop := ∃ t : Addr, v = .ref t ∧ H t = some (.tup [o.1.v, .int (o.2 : Nat)])
theorem OptAt.mono {H H' : Hp} {v : V} {o : Opt} (e : Same H H') (h : OptAt H v o) : OptAt H' v o := by
  obtain ⟨t, rfl, h⟩ := h
  exact ⟨t, rfl, e _ _ h⟩
theorem OptAt.stab {H : Hp} {D : Addr} {ys zs : List V} {v : V} {o : Opt} (h : H D = some (.lst ys)) (hp : OptAt H v o) : OptAt (upd H D (.lst zs)) v o := by
  obtain ⟨t, rfl, ht⟩ := hp
  exact ⟨t, rfl, by rw [upd_ne (ne_of ht h (by intro z; cases z))]; exact ht⟩
end Pg
namespace Pg
open PySem L2
/-! ### data that may be compared -/
/-- of a depth of d at most -/
def Shp (d : Nat) (x : PyData) : Prop := x.canLay0 = true ∧ x.depth ≤ d
theorem Shp.mono {d e : Nat} {x : PyData} (h : Shp d x) (l : d ≤ e) : Shp e x := ⟨h.1, Nat.le_trans h.2 l⟩
theorem Shp.shaped {d : Nat} {x : PyData} (h : Shp d x) (l : d ≤ 64 := by decide) : SeqAt.shaped x = true := by
  show (x.canLay0 && decide (x.depth ≤ 64)) = true
  rw [Bool.and_eq_true]
  exact ⟨h.1, decide_eq_true (Nat.le_trans h.2 l)⟩
theorem Shp.refl {d : Nat} {x : PyData} (h : Shp d x) : PyData.eqv x x = true := SeqAt.eqv_refl x h.1
theorem shp_all {d : Nat} : ∀ {xs : List PyData}, (∀ x ∈ xs, Shp d x) → PyData.canLayAll0 xs = true ∧ PyData.depthAll xs ≤ d
  | [], _ => ⟨by simp [PyData.canLayAll0], by simp [PyData.depthAll]⟩
  | x :: r, h => by
    obtain ⟨h1, h2⟩ := shp_all (xs := r) fun y m => h y (List.mem_cons_of_mem _ m)
    obtain ⟨h3, h4⟩ := h x List.mem_cons_self
    refine ⟨by simp [PyData.canLayAll0, h1, h3], ?_⟩
    simp only [PyData.depthAll]
    omega
theorem shp_lst {d : Nat} {xs : List PyData} (h : ∀ x ∈ xs, Shp d x) : Shp (d + 1) (.list xs) := by
  obtain ⟨h1, h2⟩ := shp_all h
  refine ⟨by simpa [PyData.canLay0] using h1, ?_⟩
  simp only [PyData.depth]
  omega
theorem shp_tup {d : Nat} {xs : List PyData} (h : ∀ x ∈ xs, Shp d x) : Shp (d + 1) (.tuple xs) := by
  obtain ⟨h1, h2⟩ := shp_all h
  refine ⟨by simpa [PyData.canLay0] using h1, ?_⟩
  simp only [PyData.depth]
  omega
theorem shp_int {d : Nat} (i : Int) : Shp d (.int i) := ⟨by simp [PyData.canLay0], by simp [PyData.depth]⟩
theorem shp_bool {d : Nat} (i : Bool) : Shp d (.bool i) := ⟨by simp [PyData.canLay0], by simp [PyData.depth]⟩
theorem shp_prD (p : Pr) : Shp 1 (prD p) := shp_tup fun x m => by
  rcases List.mem_cons.mp m with e | m
  · rw [e]
    exact shp_int _
  · rw [List.mem_singleton.mp m]
    exact shp_int _
theorem shp_prsD (ps : List Pr) : Shp 2 (prsD ps) := shp_tup fun x m => by
  obtain ⟨p, _, e⟩ := List.mem_map.mp m
  rw [← e]
  exact shp_prD p
theorem shp_pgD (n : Int) (ps : List Pr) : Shp 3 (pgD n ps) := shp_tup fun x m => by
  rcases List.mem_cons.mp m with e | m
  · rw [e]
    exact shp_int _
  · rw [List.mem_singleton.mp m]
    exact shp_prsD _
theorem prD_eqv (p q : Pr) : PyData.eqv (prD p) (prD q) = decide (p = q) := by
  obtain ⟨a, b⟩ := p
  obtain ⟨c, d⟩ := q
  show PyData.eqv (.tuple [.int a, .int b]) (.tuple [.int c, .int d]) = _
  simp only [PyData.eqv, PyData.eqvAll, Bool.and_true, Prod.mk.injEq]
  rw [Bool.eq_iff_iff]
  simp
theorem eqvAll_map {α : Type} [DecidableEq α] (f : α → PyData) (h : ∀ x y, PyData.eqv (f x) (f y) = decide (x = y)) : ∀ xs ys : List α, PyData.eqvAll (xs.map f) (ys.map f) = decide (xs = ys)
  | [], [] => by simp [PyData.eqvAll]
  | [], _ :: _ => by simp [PyData.eqvAll]
  | _ :: _, [] => by simp [PyData.eqvAll]
  | x :: xs, y :: ys => by
    simp only [List.map_cons, PyData.eqvAll, h x y, eqvAll_map f h xs ys, List.cons.injEq]
    rw [Bool.eq_iff_iff]
    simp
theorem prsD_eqv (ps qs : List Pr) : PyData.eqv (prsD ps) (prsD qs) = decide (ps = qs) := by
  unfold prsD
  simp only [PyData.eqv]
  exact eqvAll_map prD prD_eqv ps qs
theorem pgD_eqv (n m : Int) (ps qs : List Pr) : PyData.eqv (pgD n ps) (pgD m qs) = (decide (n = m) && decide (ps = qs)) := by
  unfold pgD
  simp only [PyData.eqv, PyData.eqvAll, prsD_eqv, Bool.and_true]
  rw [Bool.eq_iff_iff]
  simp
theorem pgs_dp {K : PySem.W.Frag} {H : Hp} {n : Int} : ∀ {xs : List V} {ls : List (List Stp)}, Paired (fun v b => PairingAt H v n (prs b)) xs ls → DpAll K H xs (ls.map fun b => pgD n (prs b))
  | _, _, .nil => .nil
  | _, _, .cons a b => .cons a.dp (pgs_dp b)
theorem shp_pgs (n : Int) (ls : List (List Stp)) : Shp 4 (.list (ls.map fun b => pgD n (prs b))) := shp_lst fun x m => by
  obtain ⟨b, _, e⟩ := List.mem_map.mp m
  rw [← e]
  exact shp_pgD _ _
/-- a walk's steps -/
def Stp.d : Stp → PyData
  | .lone => .str "lone"
  | .opn => .str "open"
  | .num k => .int (k : Int)
theorem stp_dp {K : PySem.W.Frag} {H : Hp} : ∀ st : Stp, Dp K H st.v st.d
  | .lone => .str _
  | .opn => .str _
  | .num _ => .int _
theorem stps_dp {K : PySem.W.Frag} {H : Hp} : ∀ ws : List Stp, DpAll K H (ws.map Stp.v) (ws.map Stp.d)
  | [] => .nil
  | st :: r => .cons (stp_dp st) (stps_dp r)
theorem shp_stp : ∀ st : Stp, Shp 0 st.d
  | .lone => ⟨by decide +kernel, by decide +kernel⟩
  | .opn => ⟨by decide +kernel, by decide +kernel⟩
  | .num k => shp_int _
theorem shp_stps (ws : List Stp) : Shp 1 (.list (ws.map Stp.d)) := shp_lst fun x m => by
  obtain ⟨st, _, e⟩ := List.mem_map.mp m
  rw [← e]
  exact shp_stp st
theorem scal_stp : ∀ a b : Stp, scal a.v b.v = true
  | .lone, .lone => rfl
  | .lone, .opn => rfl
  | .lone, .num _ => rfl
  | .opn, .lone => rfl
  | .opn, .opn => rfl
  | .opn, .num _ => rfl
  | .num _, .lone => rfl
  | .num _, .opn => rfl
  | .num _, .num _ => rfl
/-! ### lists of truth values -/
theorem bools_dp {K : PySem.W.Frag} {H : Hp} : ∀ bs : List Bool, DpAll K H (bs.map V.bl) (bs.map PyData.bool)
  | [] => .nil
  | b :: r => .cons (.bl b) (bools_dp r)
theorem shp_bools (bs : List Bool) : Shp 1 (.list (bs.map PyData.bool)) := shp_lst fun x m => by
  obtain ⟨b, _, e⟩ := List.mem_map.mp m
  rw [← e]
  exact shp_bool b
end Pg
namespace Pg
open PySem L2
def topS (i : Nat) : Stmt := PySem.Challenge.pw_pairlings_k11_whole_one_by_one.main.body.getD i (.Pass ⟨0, 0, 0, 0⟩)
structure CA where
  PairError : Addr
  NoWalk : Addr
  NoNumber : Addr
/-- what the top has left of the names that the defs read -/
structure Txt (K : PySem.W.Frag) (mg : Str → Option Value) (ca : CA) : Prop where
  z_isinstance : mg "isinstance" = none
  z_len : mg "len" = none
  z_range : mg "range" = none
  z_sorted : mg "sorted" = none
  z_str : mg "str" = none
  z_tuple : mg "tuple" = none
  g_MOST : ∃ t, mg "MOST" = some (.int 60 t)
  g_PairError : mg "PairError" = some (.ref ca.PairError)
  g_NoWalk : mg "NoWalk" = some (.ref ca.NoWalk)
  g_NoNumber : mg "NoNumber" = some (.ref ca.NoNumber)
end Pg

namespace Pg
open PySem L2
section
variable {P : Program} {w : World} {K : PySem.W.Frag} {mg : Str → Option Value} {base : Heap} {ca : CA}
abbrev s_law_cell_at : Stmt := topS 13
theorem sc_law_cell_at : FnScope ["script", "k"] ["script", "k"] (defScope s_law_cell_at) := ⟨rfl, rfl, rfl, by decide +kernel, rfl, by decide +kernel, by decide +kernel⟩
def cellAt (ns : List Int) (k : Int) : Int := ns.getD k.toNat 0
def sp_law_cell_at (K : PySem.W.Frag) : Sp := fun vs H Q _ => ∃ (a : Addr) (ns : List Int) (k : Int), vs = [.ref a, .int k] ∧ SqL K H a (ns.map V.int) ∧ 0 ≤ k ∧ Q (.int (cellAt ns k)) H
theorem ok_law_cell_at (T : Txt K mg ca) (D : Def K mg "_law_cell_at" ["script", "k"] s_law_cell_at) : Known P w K mg base CX0 1 "_law_cell_at" ["script", "k"] (sp_law_cell_at K) := by
  refine D.known fun f fd F => F.ok sc_law_cell_at (fun vs H Q E h => ?_) (fun cdv A outer s H vs Q E hr h => ?_)
  · obtain ⟨_, _, _, rfl, _⟩ := h
    rfl
  · obtain ⟨a, ns, k, rfl, hS, hk, q⟩ := h
    refine ⟨_, (pss_cons (ps_if (pt_cmpR op_lt (pv 1) (pe_callB (callLen K) (by rfl) T.z_len PySem.boot_len (pa_cons (pv 0) pa_nil)) (nomark _))
      (pss_one (ps_ret (pe_ix (ixL K) (pv 0) (pv 1) (fun _ _ => rfl))))
      pss_nil)
      (pss_one (ps_ret pe_int))), ?_⟩
    refine ⟨_, rfl, _, rfl, a, _, rfl, .inl hS, _, _, rfl, rfl, _, rfl, ?_⟩
    refine ite2 (fun e => ?_) (fun e => ?_)
    · have e1 := of_decide_eq_true e
      rw [List.length_map] at e1
      have g : (ns.map V.int)[k.toNat]? = some (.int (cellAt ns k)) := by
        have hl : k.toNat < ns.length := by omega
        rw [List.getElem?_map, List.getElem?_eq_getElem hl]
        show some (V.int ns[k.toNat]) = _
        rw [cellAt, List.getD_eq_getElem?_getD, List.getElem?_eq_getElem hl]
        rfl
      exact ⟨_, rfl, _, rfl, a, _, k, _, rfl, rfl, hS, at_of (j := k.toNat) (by omega) g, q⟩
    · have e1 : ¬ k < (ns.map V.int).length := fun z => e (decide_eq_true z)
      rw [List.length_map] at e1
      have g : cellAt ns k = 0 := by
        rw [cellAt, List.getD_eq_getElem?_getD, List.getElem?_eq_none (by omega)]
        rfl
      rw [g] at q
      exact q
end
end Pg

namespace Pg
open PySem L2
section
variable {P : Program} {w : World} {K : PySem.W.Frag} {mg : Str → Option Value} {base : Heap} {ca : CA}
abbrev s_law_of_walk : Stmt := topS 17
theorem sc_law_of_walk : FnScope ["walk", "open_ones", "pairs", "point", "start", "one"] ["walk"] (defScope s_law_of_walk) := ⟨rfl, rfl, rfl, by decide +kernel, rfl, by decide +kernel, by decide +kernel⟩
/-- the pairing of a walk -/
def sp_law_of_walk (K : PySem.W.Frag) : Sp := fun vs H Q _ => ∃ (a : Addr) (ws : List Stp) (h : Nat), vs = [.ref a] ∧ SqL K H a (ws.map Stp.v) ∧ run 0 ws = some h ∧ ws.length ≤ 100 ∧
  ∀ (H' : Hp) (v : V), Same H H' → PairingAt H' v (ws.length : Int) (prs ws) → Q v H'
theorem ok_law_of_walk (T : Txt K mg ca) (D : Def K mg "_law_of_walk" ["walk"] s_law_of_walk) : Known P w K mg base CX0 1 "_law_of_walk" ["walk"] (sp_law_of_walk K) := by
  refine D.known fun f fd F => F.ok sc_law_of_walk (fun vs H Q E h => ?_) (fun cdv A outer s H vs Q E hr h => ?_)
  · obtain ⟨_, _, _, rfl, _⟩ := h
    rfl
  · obtain ⟨a, ws, h, rfl, hS, hrun, hlen, q⟩ := h
    refine ⟨_, (pss_cons (ps_set (i := 1) sc_law_of_walk.nd rfl (Or.inl rfl) (pe_lst pa_nil))
      (pss_cons (ps_set (i := 2) sc_law_of_walk.nd rfl (Or.inl rfl) (pe_lst pa_nil))
      (pss_cons (ps_for PassesOwn.never rfl (pi_range1 (by rfl) T.z_range (pa_cons (pe_callB (callLen K) (by rfl) T.z_len PySem.boot_len (pa_cons (pv 0) pa_nil)) pa_nil)) (pg_name (i := 3) sc_law_of_walk.nd rfl (Or.inl rfl))
      (pss_one (ps_if (pt_cmpR op_eq (pe_ix (ixL K) (pv 0) (pv 3) (fun _ _ => rfl)) pe_str (nomark _))
      (pss_one (ps_expr (peM K PySem.F.plainAttrs_list PySem.F.slot_list_append PySem.F.type_list_append mt_append (pv 1) (pa_cons (pv 3) pa_nil))))
      (pss_one (ps_if (pt_cmpR op_ne (pe_ix (ixL K) (pv 0) (pv 3) (fun _ _ => rfl)) pe_str (nomark _))
      (pss_cons (ps_set (i := 4) sc_law_of_walk.nd rfl (Or.inr rfl) (pe_ix (ixL K) (pv 1) (pe_ix (ixL K) (pv 0) (pv 3) (fun _ _ => rfl)) (fun _ _ => rfl)))
      (pss_cons (ps_setLc (i := 1) (own := [("one", 5)]) (g := gName 5) (tt := _) rfl sc_law_of_walk.nd rfl rfl (sw_true rfl rfl rfl (by decide +kernel)) (piL K (pv 1)) (blkOk_by (N := ["walk", "open_ones", "pairs", "point", "start", "one"]) (sc := defScope s_law_of_walk) (by decide +kernel)) (fun _ _ _ _ _ => (pg_name (i := 5) sc_law_of_walk.nd rfl (Or.inl rfl))) (fun _ _ _ _ _ => (pts_one (pt_cmpR op_ne (pv 5) (pv 4) (nomark _)))) (fun _ _ _ _ _ => (pv 5)))
      (pss_one (ps_expr (peM K PySem.F.plainAttrs_list PySem.F.slot_list_append PySem.F.type_list_append mt_append (pv 2) (pa_cons (pe_tup (pa_cons (pv 4) (pa_cons (pv 3) pa_nil))) pa_nil))))))
      pss_nil)))))
      (pss_one (ps_ret (pe_tup (pa_cons (pe_callB (callLen K) (by rfl) T.z_len PySem.boot_len (pa_cons (pv 0) pa_nil)) (pa_cons (pe_callTy (callTup K) (by rfl) T.z_tuple (by decide +kernel) (pa_cons (pe_callB (cr_sortedPP K) (by rfl) T.z_sorted (by decide +kernel) (pa_cons (pv 2) pa_nil)) pa_nil)) pa_nil)))))))), ?_⟩
    refine ⟨Nat.zero_le _, fun o ho => ?_⟩
    refine ⟨Nat.zero_le _, fun r hr' => ?_⟩
    have nor : o ≠ r := ne_of_none upd_same hr'
    have hrH : H r = none := by
      rw [upd_ne (Ne.symm nor)] at hr'
      exact hr'
    have s1 := (sm_new (o := .lst []) ho).trans (sm_new (o := .lst []) hr')
    -- for point in range(len(walk))
    refine ⟨_, rfl, a, _, rfl, .inl (s1.seq hS), _, rfl, by omega, (by rw [List.length_map]; omega), ?_⟩
    refine for_range (lo := 0) (n := ((ws.map Stp.v).length : Int).toNat) (fun i σ H' => ∃ (o : Addr) (xs : List V) (x3 x4 x5 : Option V), σ = [some (.ref a), some (.ref o), some (.ref r), x3, x4, x5] ∧
      H o = none ∧ o ≠ r ∧ Same H H' ∧ H' o = some (.lst ((osAt ws i).map V.int)) ∧ H' r = some (.lst xs) ∧ PairsAt H' xs (prAt ws i)) ?_ ?_ ?_
    · exact ⟨o, [], none, none, none, rfl, ho, nor, s1, (by rw [upd_ne nor, upd_same]; rfl), upd_same, .nil⟩
    · rintro i σ H' hi ⟨o, xs, x3, x4, x5, rfl, ho, nor, hs, hO, hR, hP⟩
      have hi' : i < ws.length := by
        rw [List.length_map] at hi
        omega
      obtain ⟨st, hst, hv⟩ := step_at hi'
      have hA : SqL K H' a (ws.map Stp.v) := hs.seq hS
      have hat : atI (ws.map Stp.v) (0 + (i : Int)) = some st.v := at_of (j := i) (by omega) hv
      have e1 := os_succ hst
      have e2 := pr_succ hst
      have hos := os_le ws i
      have hpr := pr_le ws i
      refine ⟨_, rfl, _, rfl, a, _, _, _, rfl, rfl, hA, hat, ?_⟩
      cases st with
      | opn =>
        refine ⟨rfl, _, rfl, iteT ?_⟩
        refine ⟨_, rfl, .inl ⟨rfl, _, SqL.of hO⟩, _, rfl, o, _, _, rfl, rfl, hO, szl (by rw [List.length_map]; omega), ?_⟩
        refine ⟨o, xs, _, _, _, rfl, ho, nor, sm_mut hs ho, ?_, (by rw [upd_ne (Ne.symm nor)]; exact hR), ?_⟩
        · rw [upd_same, e1]
          show _ = some (HO.lst ((osAt ws i ++ [(i : Int)]).map V.int))
          rw [List.map_append, Int.zero_add]
          rfl
        · rw [e2]
          show PairsAt _ xs (prAt ws i ++ [])
          rw [List.append_nil]
          exact upd_pairs hO hP
      | lone =>
        refine ⟨rfl, _, rfl, iteF ?_⟩
        refine ⟨_, rfl, _, rfl, a, _, _, _, rfl, rfl, hA, hat, rfl, _, rfl, iteF ?_⟩
        refine ⟨o, xs, _, _, _, rfl, ho, nor, hs, ?_, hR, ?_⟩
        · rw [e1]
          exact hO
        · rw [e2]
          show PairsAt _ xs (prAt ws i ++ [])
          rw [List.append_nil]
          exact hP
      | num k =>
        refine ⟨rfl, _, rfl, iteF ?_⟩
        refine ⟨_, rfl, _, rfl, a, _, _, _, rfl, rfl, hA, hat, rfl, _, rfl, iteT ?_⟩
        -- start = open_ones[walk[point]]
        have hk := os_num hrun hst
        have hat2 : atI ((osAt ws i).map V.int) (k : Int) = some (.int ((osAt ws i).getD k 0)) := atI_nat (by
          rw [List.getElem?_map, List.getElem?_eq_getElem hk, List.getD_eq_getElem?_getD, List.getElem?_eq_getElem hk]
          rfl)
        refine ⟨_, rfl, _, rfl, _, rfl, a, _, _, _, rfl, rfl, hA, hat, o, _, _, _, rfl, rfl, SqL.of hO, hat2, ?_⟩
        -- open_ones = [one for one in open_ones if one != start]
        with_reducible refine gn (sq (asg ?_))
        refine lcL (K := K) (a := o) (xs := (osAt ws i).map V.int) (fun x => !decide (x = .int ((osAt ws i).getD k 0))) id (fun Q q => ⟨_, rfl, q⟩) (SqL.of hO) (by rw [List.length_map]; omega) (fun x => rfl) (fun x hx H1 s1 Q q => ?_) (fun x hx _ H1 s1 Q q => ⟨_, rfl, q⟩) fun p hp => ?_
        · obtain ⟨z, hz, rfl⟩ := List.mem_map.mp hx
          exact ⟨_, rfl, _, rfl, rfl, _, rfl, q⟩
        have nrp : r ≠ p := ne_of_none hR hp
        -- pairs.append((start, point))
        refine ⟨_, rfl, .inl ⟨rfl, _, SqL.of (by rw [upd_ne nrp]; exact hR)⟩, _, rfl, _, rfl, (by show 2 ≤ sizeLine; decide), fun t ht => ?_⟩
        have hpH : H p = none := hs.free hp
        have hR2 : (upd H' p (.lst (((((osAt ws i).map V.int).filter fun x => !decide (x = .int ((osAt ws i).getD k 0))).map id)))) r = some (.lst xs) := by rw [upd_ne nrp]; exact hR
        have nrt : r ≠ t := ne_of_none hR2 ht
        have npt : p ≠ t := ne_of_none upd_same ht
        have hT : H' t = none := by
          rw [upd_ne (Ne.symm npt)] at ht
          exact ht
        refine ⟨r, _, _, rfl, rfl, (by rw [upd_ne nrt]; exact hR2), szl (by rw [paired_length hP]; omega), ?_⟩
        refine ⟨p, _, _, _, _, rfl, hpH, Ne.symm nrp, ?_, ?_, upd_same, ?_⟩
        · exact sm_mut ((hs.trans (sm_new hp)).trans (sm_new ht)) hrH
        · rw [upd_ne (Ne.symm nrp), upd_ne npt, upd_same, List.map_id, e1, List.filter_map]
          show _ = some (HO.lst (((osAt ws i).eraseIdx k).map V.int))
          rw [← filter_ne_eraseIdx _ k (osAt_asc ws i).nodup hk]
          congr 3
          refine List.filter_congr fun x _ => ?_
          show (!decide (V.int x = V.int ((osAt ws i).getD k 0))) = !decide (x = (osAt ws i).getD k 0)
          congr 1
          rw [decide_eq_decide]
          exact ⟨fun z => V.int.inj z, fun z => by rw [z]⟩
        · rw [e2]
          show PairsAt _ _ (prAt ws i ++ [((osAt ws i).getD k 0, (i : Int))])
          refine paired_append (upd_pairs (o := .lst xs) (by rw [upd_ne nrt, upd_ne nrp]; exact hR) ((PairsAt.mono (sm_new hp) hP).mono (sm_new ht))) (.cons ⟨t, rfl, ?_⟩ .nil)
          rw [upd_ne (Ne.symm nrt), upd_same, Int.zero_add]
    · rintro σ H' ⟨o, xs, x3, x4, x5, rfl, ho, nor, hs, hO, hR, hP⟩
      have hA : SqL K H' a (ws.map Stp.v) := hs.seq hS
      have e : (((ws.map Stp.v).length : Int)).toNat = ws.length := by
        rw [List.length_map]
        omega
      rw [e, prAt_all] at hP
      -- return (len(walk), tuple(sorted(pairs)))
      refine ⟨_, rfl, a, _, rfl, .inl hA, _, rfl, r, xs, _, rfl, SqL.of hR, hP, fun ys p hy hperm hp => ?_⟩
      have hlen2 := paired_length hy
      refine ⟨p, ys, rfl, .inl ⟨SqL.of upd_same, fun t ht => ?_⟩⟩
      refine ⟨(by show 2 ≤ sizeLine; decide), fun u hu => ?_⟩
      refine q _ _ (((hs.trans (sm_new hp)).trans (sm_new ht)).trans (sm_new hu)) ⟨u, t, ys, rfl, ?_, ?_, ?_⟩
      · rw [upd_same, List.length_map]
      · rw [upd_ne (ne_of_none upd_same hu), upd_same]
      · exact ((hy.mono (sm_new hp)).mono (sm_new ht)).mono (sm_new hu)
end
end Pg

namespace Pg
open PySem L2
section
variable {P : Program} {w : World} {K : PySem.W.Frag} {mg : Str → Option Value} {base : Heap} {ca : CA}
abbrev s_law_all : Stmt := topS 20
theorem sc_law_all : FnScope ["points", "rows", "left", "longer", "walk", "height", "step"] ["points"] (defScope s_law_all) := ⟨rfl, rfl, rfl, by decide +kernel, rfl, by decide +kernel, by decide +kernel⟩
/-- all pairings of some points, a new list -/
def sp_law_all (K : PySem.W.Frag) : Sp := fun vs H Q _ => ∃ n : Nat, vs = [.int (n : Int)] ∧ n ≤ 8 ∧
  ∀ (H' : Hp) (p : Addr) (xs : List V), Same H H' → H p = none → H' p = some (.lst xs) → Paired (fun v ws => PairingAt H' v (n : Int) (prs ws)) xs (allW n) → Q (.ref p) H'
theorem ok_law_all (T : Txt K mg ca) (D : Def K mg "_law_all" ["points"] s_law_all) (G_law_of_walk : Known P w K mg base CX0 1 "_law_of_walk" ["walk"] (sp_law_of_walk K)) : Known P w K mg base CX0 2 "_law_all" ["points"] (sp_law_all K) := by
  refine D.known fun f fd F => F.ok sc_law_all (fun vs H Q E h => ?_) (fun cdv A outer s H vs Q E hr h => ?_)
  · obtain ⟨_, rfl, _⟩ := h
    rfl
  · obtain ⟨n, rfl, h8, q⟩ := h
    have hfew : ∀ {i}, i ≤ n → (lev n i).length ≤ 764 := fun hi => Nat.le_trans (lev_len hi) (cnt_few h8)
    refine ⟨_, (pss_cons (ps_set (i := 1) sc_law_all.nd rfl (Or.inl rfl) (pe_lst (pa_cons (pe_tup (pa_cons (pe_lst pa_nil) (pa_cons pe_int pa_nil))) pa_nil)))
      (pss_cons (ps_for PassesOwn.never rfl (pi_range3 (by rfl) T.z_range (pa_cons (pe_op op_sub (pv 0) pe_int) (pa_cons (pe_un un_neg pe_int) (pa_cons (pe_un un_neg pe_int) pa_nil)))) (pg_name (i := 2) sc_law_all.nd rfl (Or.inl rfl))
      (pss_cons (ps_set (i := 3) sc_law_all.nd rfl (Or.inl rfl) (pe_lst pa_nil))
      (pss_cons (ps_for PassesOwn.never rfl (piL K (pv 1)) (pgT K rfl (pgs_cons (pg_name (i := 4) sc_law_all.nd rfl (Or.inl rfl)) (pgs_cons (pg_name (i := 5) sc_law_all.nd rfl (Or.inl rfl)) pgs_nil)))
      (Evl.pss_cut (ps_if (pt_cmpR op_le (pv 5) (pv 2) (nomark _))
      (pss_one (ps_expr (peM K PySem.F.plainAttrs_list PySem.F.slot_list_append PySem.F.type_list_append mt_append (pv 3) (pa_cons (pe_tup (pa_cons (pe_op op_cat (pv 4) (pe_lst (pa_cons pe_str pa_nil))) (pa_cons (pv 5) pa_nil))) pa_nil))))
      pss_nil)
      (Evl.pss_cut (ps_if (pt_cmpR op_lt (pv 5) (pv 2) (nomark _))
      (pss_one (ps_expr (peM K PySem.F.plainAttrs_list PySem.F.slot_list_append PySem.F.type_list_append mt_append (pv 3) (pa_cons (pe_tup (pa_cons (pe_op op_cat (pv 4) (pe_lst (pa_cons pe_str pa_nil))) (pa_cons (pe_op op_add (pv 5) pe_int) pa_nil))) pa_nil))))
      pss_nil)
      (pss_one (ps_for PassesOwn.never rfl (pi_range1 (by rfl) T.z_range (pa_cons (pv 5) pa_nil)) (pg_name (i := 6) sc_law_all.nd rfl (Or.inl rfl))
      (pss_one (ps_expr (peM K PySem.F.plainAttrs_list PySem.F.slot_list_append PySem.F.type_list_append mt_append (pv 3) (pa_cons (pe_tup (pa_cons (pe_op op_cat (pv 4) (pe_lst (pa_cons (pv 6) pa_nil))) (pa_cons (pe_op op_sub (pv 5) pe_int) pa_nil))) pa_nil)))))))))
      (pss_one (ps_set (i := 1) sc_law_all.nd rfl (Or.inl rfl) (pv 3))))))
      (pss_one (ps_ret (pe_lc (own := [("walk", 4), ("height", 5)]) (g := gTup K 2 (gCons (gName 4) (gCons (gName 5) gNil))) (tt := tYes) rfl sc_law_all.nd (piL K (pv 1)) (blkOk_by (N := ["points", "rows", "left", "longer", "walk", "height", "step"]) (sc := defScope s_law_all) (by decide +kernel)) (fun _ _ _ _ _ => (pgT K rfl (pgs_cons (pg_name (i := 4) sc_law_all.nd rfl (Or.inl rfl)) (pgs_cons (pg_name (i := 5) sc_law_all.nd rfl (Or.inl rfl)) pgs_nil)))) (fun _ _ _ _ _ => pts_nil) (fun _ _ _ _ _ => (pe_kc G_law_of_walk (hr.mono (by decide)) (by rfl) pass0 (pa_cons (pv 4) pa_nil)))))))), ?_⟩
    -- rows = [([], 0)]
    refine ⟨Nat.zero_le _, fun l0 hl0 => ?_⟩
    refine ⟨(by show 2 ≤ sizeLine; decide), fun t0 ht0 => ?_⟩
    refine ⟨(by show 1 ≤ sizeLine; decide), fun r0 hr0 => ?_⟩
    -- for left in range(points - 1, -1, -1)
    refine ⟨_, rfl, _, _, rfl, rfl, _, rfl, _, rfl, (n : Int) - 1, -1, -1, ((n : Int) - 1 - -1).toNat, rfl, RgC.neg (by omega) (by omega) (by decide) (by decide), ?_⟩
    refine for_rangeC (fun i σ H' => ∃ (r : Addr) (xs : List V) (x2 x3 x4 x5 x6 : Option V), σ = [some (.int (n : Int)), some (.ref r), x2, x3, x4, x5, x6] ∧ Same H H' ∧ H' r = some (.lst xs) ∧ Paired (RowAt H') xs (lev n i)) ?_ ?_ ?_
    · have hl1 : (upd (upd H l0 (.lst [])) t0 (.tup [.ref l0, .int 0])) l0 = some (.lst []) := by
        rw [upd_ne (ne_of_none upd_same ht0), upd_same]
      refine ⟨r0, _, none, none, none, none, none, rfl, ((sm_new hl0).trans (sm_new ht0)).trans (sm_new hr0), upd_same, .cons ⟨t0, l0, rfl, ?_, ?_⟩ .nil⟩
      · rw [upd_ne (ne_of_none upd_same hr0), upd_same]
        rfl
      · rw [upd_ne (ne_of_none hl1 hr0)]
        exact hl1
    · rintro i σ H' hi ⟨r, xs, x2, x3, x4, x5, x6, rfl, hs, hR, hP⟩
      have hi' : i < n := by omega
      have hxl := paired_length hP
      have hxf := hfew (i := i) (by omega)
      -- longer = []
      refine ⟨Nat.zero_le _, fun g hg => ?_⟩
      have s1 := sm_new (o := .lst []) hg
      let left : Nat := n - 1 - i
      have eleft : (n : Int) - 1 + i * -1 = (left : Int) := by show _ = ((n - 1 - i : Nat) : Int); omega
      refine ⟨_, rfl, r, rfl, ⟨_, SqL.of (s1 _ _ hR)⟩, ?_⟩
      refine for_list (K := K) (a := r) (xs := xs) (fun j σ H2 => ∃ (ys : List V) (x4 x5 x6 : Option V), σ = [some (.int (n : Int)), some (.ref r), some (.int (left : Int)), some (.ref g), x4, x5, x6] ∧ Same H' H2 ∧ H2 g = some (.lst ys) ∧
        Paired (RowAt (del H2 g)) ys (((lev n i).take j).flatMap (ext left))) ?_ (fun j σ H2 _ ⟨_, _, _, _, _, s2, _⟩ => SqL.of (s2 _ _ hR)) ?_ ?_
      · refine ⟨[], x4, x5, x6, ?_, s1, upd_same, .nil⟩
        rw [eleft]
        rfl
      · rintro j x σ H2 hx ⟨ys, x4, x5, x6, rfl, s2, hG, hY⟩
        obtain ⟨⟨ws, h⟩, hrow, hra⟩ := paired_get' hP hx
        obtain ⟨t, l, rfl, htup, hlst⟩ := hra
        have hmem := List.mem_of_getElem? hrow
        obtain ⟨_, hwl, hhn⟩ := lev_ok (show i ≤ n by omega) _ hmem
        have hwl : ws.length = i := hwl
        have hhn : h + i ≤ n := hhn
        have hyl := paired_length hY
        have hcap : ∀ z : List Row, ((lev n i).take j).flatMap (ext left) ++ z <+: ((lev n i).take (j + 1)).flatMap (ext left) → ys.length + z.length ≤ 764 := fun z hz => by
          have e1 := hz.length_le
          rw [List.length_append] at e1
          have e2 : (((lev n i).take (j + 1)).flatMap (ext left)).length ≤ (lev n (i + 1)).length := by
            have e3 : lev n (i + 1) = (lev n i).flatMap (ext left) := rfl
            rw [e3, ← List.take_append_drop (j + 1) (lev n i), List.flatMap_append, List.length_append]
            rw [List.take_append_drop]
            omega
          have e4 := hfew (i := i + 1) (by omega)
          omega
        have hft := flat_take (left := left) hrow
        have hyc : ys.length + 0 ≤ 764 := hcap [] ⟨ext left (ws, h), by rw [List.append_nil, hft]⟩
        have hext : ext left (ws, h) = (if h ≤ left then [(ws ++ [Stp.lone], h)] else []) ++ ((if h < left then [(ws ++ [Stp.opn], h + 1)] else []) ++ (List.range h).map fun k => (ws ++ [Stp.num k], h - 1)) := rfl
        -- walk, height
        refine ⟨t, _, rfl, SqT.of (s2 _ _ htup), rfl, _, _, rfl, _, _, rfl, rfl, ?_⟩
        -- if height <= left
        refine ⟨fun σ' H3 => ∃ zs, σ' = [some (.int (n : Int)), some (.ref r), some (.int (left : Int)), some (.ref g), some (.ref l), some (.int (h : Nat)), x6] ∧ Same H' H3 ∧ H3 g = some (.lst zs) ∧
          Paired (RowAt (del H3 g)) zs (((lev n i).take j).flatMap (ext left) ++ (if h ≤ left then [(ws ++ [Stp.lone], h)] else [])), ?_, ?_⟩
        · refine ⟨_, rfl, _, rfl, _, _, rfl, rfl, _, rfl, ?_⟩
          by_cases c : h ≤ left
          · rw [decide_eq_true (show (h : Int) ≤ (left : Int) by omega)]
            refine iteT ?_
            refine ⟨_, rfl, .inl ⟨rfl, _, SqL.of hG⟩, ?_⟩
            refine ⟨_, rfl, (by show 1 ≤ sizeLine; decide), fun p1 hp1 => ?_⟩
            have hl2 := s2 _ _ hlst
            refine ⟨l, p1, _, _, rfl, rfl, sm_new hp1 _ _ hl2, upd_same, by rw [List.length_map]; exact sz (by show ws.length + 1 ≤ 100000; omega), fun p2 hp2 => ?_⟩
            refine ⟨_, rfl, (by show 2 ≤ sizeLine; decide), fun t2 ht2 => ?_⟩
            have s5 := ((sm_new (o := .lst [.str "lone"]) hp1).trans (sm_new (o := .lst (ws.map Stp.v ++ [.str "lone"])) hp2)).trans (sm_new (o := .tup [.ref p2, .int (h : Nat)]) ht2)
            have np2 : p2 ≠ g := Ne.symm (ne_of_none (sm_new hp1 _ _ hG) hp2)
            refine ⟨g, _, _, rfl, rfl, s5 _ _ hG, szl (by omega), ?_⟩
            refine ⟨ys ++ [.ref t2], rfl, sm_mut (s2.trans s5) hg, upd_same, ?_⟩
            rw [if_pos c]
            refine row_push (r := (ws ++ [Stp.lone], h)) (l := p2) s5 hG hY upd_same ?_ np2
            rw [upd_ne (ne_of_none upd_same ht2), upd_same, List.map_append]
            rfl
          · rw [decide_eq_false (show ¬ (h : Int) ≤ (left : Int) by omega)]
            refine iteF ⟨ys, rfl, s2, hG, ?_⟩
            rw [if_neg c, List.append_nil]
            exact hY
        rintro σ' H3 ⟨zs, rfl, s3, hG3, hZ⟩
        have hzl := paired_length hZ
        have hl3 := s3 _ _ hlst
        have hzc : zs.length ≤ 764 := by
          rw [hzl, List.length_append, ← hyl]
          refine hcap _ ⟨(if h < left then [(ws ++ [Stp.opn], h + 1)] else []) ++ (List.range h).map fun k => (ws ++ [Stp.num k], h - 1), ?_⟩
          rw [hft, hext, List.append_assoc]
        -- if height < left
        refine ⟨fun σ' H4 => ∃ us, σ' = [some (.int (n : Int)), some (.ref r), some (.int (left : Int)), some (.ref g), some (.ref l), some (.int (h : Nat)), x6] ∧ Same H' H4 ∧ H4 g = some (.lst us) ∧
          Paired (RowAt (del H4 g)) us (((lev n i).take j).flatMap (ext left) ++ (if h ≤ left then [(ws ++ [Stp.lone], h)] else []) ++ (if h < left then [(ws ++ [Stp.opn], h + 1)] else [])), ?_, ?_⟩
        · refine ⟨_, rfl, _, rfl, _, _, rfl, rfl, _, rfl, ?_⟩
          by_cases c : h < left
          · rw [decide_eq_true (show (h : Int) < (left : Int) by omega)]
            refine iteT ?_
            refine ⟨_, rfl, .inl ⟨rfl, _, SqL.of hG3⟩, ?_⟩
            refine ⟨_, rfl, (by show 1 ≤ sizeLine; decide), fun p1 hp1 => ?_⟩
            refine ⟨l, p1, _, _, rfl, rfl, sm_new hp1 _ _ hl3, upd_same, by rw [List.length_map]; exact sz (by show ws.length + 1 ≤ 100000; omega), fun p2 hp2 => ?_⟩
            refine ⟨_, rfl, _, _, rfl, rfl, (by show 2 ≤ sizeLine; decide), fun t2 ht2 => ?_⟩
            have s5 := ((sm_new (o := .lst [.str "open"]) hp1).trans (sm_new (o := .lst (ws.map Stp.v ++ [.str "open"])) hp2)).trans (sm_new (o := .tup [.ref p2, .int ((h : Nat) + 1)]) ht2)
            have np2 : p2 ≠ g := Ne.symm (ne_of_none (sm_new hp1 _ _ hG3) hp2)
            refine ⟨g, _, _, rfl, rfl, s5 _ _ hG3, szl (by omega), ?_⟩
            refine ⟨zs ++ [.ref t2], rfl, sm_mut (s3.trans s5) hg, upd_same, ?_⟩
            rw [if_pos c]
            refine row_push (r := (ws ++ [Stp.opn], h + 1)) (l := p2) s5 hG3 hZ upd_same ?_ np2
            rw [upd_ne (ne_of_none upd_same ht2), upd_same, List.map_append]
            rfl
          · rw [decide_eq_false (show ¬ (h : Int) < (left : Int) by omega)]
            refine iteF ⟨zs, rfl, s3, hG3, ?_⟩
            rw [if_neg c, List.append_nil]
            exact hZ
        rintro σ' H4 ⟨us, rfl, s4, hG4, hU⟩
        have hul := paired_length hU
        have huc : us.length + h ≤ 764 := by
          have e := hcap (ext left (ws, h)) ⟨[], by rw [hft, List.append_nil]⟩
          rw [hext, List.length_append, List.length_append, List.length_map, List.length_range] at e
          rw [hul, List.length_append, List.length_append, ← hyl]
          omega
        -- for step in range(height)
        refine ⟨_, rfl, _, rfl, by omega, by omega, ?_⟩
        refine for_range (lo := 0) (n := ((h : Int)).toNat) (fun k σ H5 => ∃ (us : List V) (x6 : Option V), σ = [some (.int (n : Int)), some (.ref r), some (.int (left : Int)), some (.ref g), some (.ref l), some (.int (h : Nat)), x6] ∧ Same H' H5 ∧ H5 g = some (.lst us) ∧ us.length + (h - k) ≤ 764 ∧
          Paired (RowAt (del H5 g)) us (((lev n i).take j).flatMap (ext left) ++ (if h ≤ left then [(ws ++ [Stp.lone], h)] else []) ++ (if h < left then [(ws ++ [Stp.opn], h + 1)] else []) ++ (List.range k).map fun k => (ws ++ [Stp.num k], h - 1))) ?_ ?_ ?_
        · exact ⟨us, x6, rfl, s4, hG4, huc, by rw [List.range_zero, List.map_nil, List.append_nil]; exact hU⟩
        · rintro k σ H5 hk ⟨us, x6, rfl, s5, hG5, huc, hU⟩
          have hk' : k < h := by omega
          have hl5 := s5 _ _ hlst
          refine ⟨_, rfl, .inl ⟨rfl, _, SqL.of hG5⟩, ?_⟩
          refine ⟨_, rfl, _, rfl, (by show 1 ≤ sizeLine; decide), fun p1 hp1 => ?_⟩
          refine ⟨l, p1, _, _, rfl, rfl, sm_new hp1 _ _ hl5, upd_same, by rw [List.length_map]; exact sz (by show ws.length + 1 ≤ 100000; omega), fun p2 hp2 => ?_⟩
          refine ⟨_, rfl, _, _, rfl, rfl, (by show 2 ≤ sizeLine; decide), fun t2 ht2 => ?_⟩
          have s6 := ((sm_new (o := .lst [.int (0 + (k : Int))]) hp1).trans (sm_new (o := .lst (ws.map Stp.v ++ [.int (0 + (k : Int))])) hp2)).trans (sm_new (o := .tup [.ref p2, .int ((h : Nat) - 1)]) ht2)
          have np2 : p2 ≠ g := Ne.symm (ne_of_none (sm_new hp1 _ _ hG5) hp2)
          refine ⟨g, _, _, rfl, rfl, s6 _ _ hG5, szl (by omega), ?_⟩
          refine ⟨us ++ [.ref t2], _, rfl, sm_mut (s5.trans s6) hg, upd_same, by rw [List.length_append]; show us.length + 1 + (h - (k + 1)) ≤ 764; omega, ?_⟩
          rw [List.range_succ, List.map_append, ← List.append_assoc]
          refine row_push (r := (ws ++ [Stp.num k], h - 1)) (l := p2) s6 hG5 hU ?_ ?_ np2
          · rw [upd_same, show (((ws ++ [Stp.num k], h - 1) : Row).2 : Int) = (h : Int) - 1 by show ((h - 1 : Nat) : Int) = _; omega]
          · rw [upd_ne (ne_of_none upd_same ht2), upd_same, List.map_append, show (0 : Int) + (k : Int) = (k : Int) by omega]
            rfl
        · rintro σ H5 ⟨us, x6, rfl, s5, hG5, huc, hU⟩
          refine ⟨us, _, _, _, rfl, s5, hG5, ?_⟩
          rw [show ((h : Int)).toNat = h by omega] at hU
          rw [hft, hext, ← List.append_assoc, ← List.append_assoc]
          exact hU
      · rintro σ H2 ⟨ys, x4, x5, x6, rfl, s2, hG, hY⟩
        rw [hxl, List.take_length] at hY
        refine ⟨_, rfl, g, ys, _, _, _, _, _, rfl, hs.trans s2, hG, ?_⟩
        exact paired_mono (fun q => q.mono del_sub) hY
    · rintro σ H' ⟨r, xs, x2, x3, x4, x5, x6, rfl, hs, hR, hP⟩
      rw [show ((n : Int) - 1 - -1).toNat = n by omega] at hP
      have hxl := paired_length hP
      have hxf := hfew (Nat.le_refl n)
      with_reducible refine retn ?_
      refine lcLA (K := K) (a := r) (xs := xs) (fun H v ws => PairingAt H v (n : Int) (prs ws)) (allW n) (fun e h => h.mono e) (fun h hp => hp.stab h) (fun Q q => ⟨_, rfl, q⟩) (SqL.of hR) (by unfold allW; rw [List.length_map]; exact hxl.symm) (by omega) (fun i x b hx hb H1 s1 Q Z k => ?_) (fun H2 p ys s2 hp hys hpp => q H2 p ys (hs.trans s2) (hs.free hp) hys hpp)
      obtain ⟨⟨ws, h⟩, hrow, t, l, rfl, htup, hlst⟩ := paired_get' hP hx
      have eb : ws = b := by
        unfold allW at hb
        rw [List.getElem?_map, hrow] at hb
        exact Option.some.inj hb
      subst eb
      obtain ⟨hrun, hwl, hhn⟩ := lev_ok (Nat.le_refl n) _ (List.mem_of_getElem? hrow)
      have hwl : ws.length = n := hwl
      refine ⟨t, _, rfl, SqT.of (s1 _ _ htup), rfl, _, _, rfl, _, _, rfl, rfl, rfl, yesI ?_⟩
      refine ⟨_, rfl, l, ws, h, rfl, SqL.of (s1 _ _ hlst), hrun, by omega, fun H2 v s2 hv => k H2 v s2 ?_⟩
      rw [← hwl]
      exact hv
end
end Pg

namespace Pg
open PySem L2
section
variable {P : Program} {w : World} {K : PySem.W.Frag} {mg : Str → Option Value} {base : Heap} {ca : CA}
abbrev s_endings : Stmt := topS 8
theorem sc_endings : FnScope ["points", "table", "left", "last", "row", "height", "less"] ["points"] (defScope s_endings) := ⟨rfl, rfl, rfl, by decide +kernel, rfl, by decide +kernel, by decide +kernel⟩
/-- the table of how many ways go on, a new list of lists -/
def sp_endings (K : PySem.W.Frag) : Sp := fun vs H Q _ => ∃ n : Nat, vs = [.int (n : Int)] ∧ n ≤ 60 ∧ ∀ (H' : Hp) (t : Addr), Same H H' → H t = none → TabAt H' t n (n + 1) → Q (.ref t) H'
theorem ok_endings (T : Txt K mg ca) (D : Def K mg "endings" ["points"] s_endings) : Known P w K mg base CX0 1 "endings" ["points"] (sp_endings K) := by
  refine D.known fun f fd F => F.ok sc_endings (fun vs H Q E h => ?_) (fun cdv A outer s H vs Q E hr h => ?_)
  · obtain ⟨_, rfl, _⟩ := h
    rfl
  · obtain ⟨n, rfl, h60, q⟩ := h
    refine ⟨_, (pss_cons (ps_set (i := 1) sc_endings.nd rfl (Or.inl rfl) (pe_lst (pa_cons (pe_op op_cat (pe_lst (pa_cons pe_int pa_nil)) (pe_op op_rep (pe_lst (pa_cons pe_int pa_nil)) (pe_op op_add (pv 0) pe_int))) pa_nil)))
      (pss_cons (ps_for PassesOwn.never rfl (pi_range1 (by rfl) T.z_range (pa_cons (pv 0) pa_nil)) (pg_name (i := 2) sc_endings.nd rfl (Or.inl rfl))
      (pss_cons (ps_set (i := 3) sc_endings.nd rfl (Or.inl rfl) (pe_ix (ixL K) (pv 1) (pe_un un_neg pe_int) (fun _ _ => rfl)))
      (pss_cons (ps_set (i := 4) sc_endings.nd rfl (Or.inl rfl) (pe_lst pa_nil))
      (pss_cons (ps_for PassesOwn.never rfl (pi_range1 (by rfl) T.z_range (pa_cons (pe_op op_add (pv 0) pe_int) pa_nil)) (pg_name (i := 5) sc_endings.nd rfl (Or.inl rfl))
      (pss_cons (ps_set (i := 6) sc_endings.nd rfl (Or.inl rfl) pe_int)
      (Evl.pss_cut (ps_if (pt_cmpR op_gt (pv 5) pe_int (nomark _))
      (pss_one (ps_set (i := 6) sc_endings.nd rfl (Or.inl rfl) (pe_op op_mul (pv 5) (pe_ix (ixL K) (pv 3) (pe_op op_sub (pv 5) pe_int) (fun _ _ => rfl)))))
      pss_nil)
      (pss_one (ps_expr (peM K PySem.F.plainAttrs_list PySem.F.slot_list_append PySem.F.type_list_append mt_append (pv 4) (pa_cons (pe_op op_add (pe_op op_add (pe_ix (ixL K) (pv 3) (pv 5) (fun _ _ => rfl)) (pe_ix (ixL K) (pv 3) (pe_op op_add (pv 5) pe_int) (fun _ _ => rfl))) (pv 6)) pa_nil)))))))
      (pss_one (ps_expr (peM K PySem.F.plainAttrs_list PySem.F.slot_list_append PySem.F.type_list_append mt_append (pv 1) (pa_cons (pe_op op_cat (pv 4) (pe_lst (pa_cons pe_int pa_nil))) pa_nil))))))))
      (pss_one (ps_ret (pv 1))))), ?_⟩
    -- table = [[1] + [0] * (points + 1)]
    refine ⟨(by show 1 ≤ sizeLine; decide), fun p1 hp1 => ?_⟩
    refine ⟨(by show 1 ≤ sizeLine; decide), fun p2 hp2 => ?_⟩
    refine ⟨_, rfl, _, _, rfl, rfl, ?_⟩
    have hn1 : ((n : Int) + 1).toNat = n + 1 := by omega
    refine ⟨p2, _, _, rfl, rfl, upd_same, by omega, by omega, ?_, fun p3 hp3 => ?_⟩
    · rw [hn1]
      show 1 * (n + 1) ≤ sizeLine
      exact sz (by omega)
    rw [hn1]
    have h12 : (upd (upd H p1 (.lst [.int 1])) p2 (.lst [.int 0])) p1 = some (.lst [.int 1]) := by
      rw [upd_ne (ne_of_none upd_same hp2), upd_same]
    refine ⟨p1, p3, _, _, rfl, rfl, by rw [upd_ne (ne_of_none h12 hp3)]; exact h12, upd_same, ?_, fun p4 hp4 => ?_⟩
    · rw [rep_flat, List.length_replicate]
      exact sz (by show 1 + (n + 1) ≤ 100000; omega)
    rw [← rowV_zero]
    refine ⟨(by show 1 ≤ sizeLine; decide), fun t ht => ?_⟩
    have s0 : Same H (upd (upd (upd (upd H p1 (.lst [.int 1])) p2 (.lst [.int 0])) p3 (.lst (List.replicate (n + 1) [V.int 0]).flatten)) p4 (.lst (rowV n 0))) := (((sm_new hp1).trans (sm_new hp2)).trans (sm_new hp3)).trans (sm_new hp4)
    have htH : H t = none := s0.free ht
    -- for left in range(points)
    refine ⟨_, rfl, _, rfl, by omega, by omega, ?_⟩
    refine for_range (lo := 0) (n := ((n : Int)).toNat) (fun i σ H' => ∃ x2 x3 x4 x5 x6, σ = [some (.int (n : Int)), some (.ref t), x2, x3, x4, x5, x6] ∧ Same H H' ∧ TabAt H' t n (i + 1)) ?_ ?_ ?_
    · refine ⟨none, none, none, none, none, rfl, s0.trans (sm_new ht), ⟨_, upd_same, rfl, fun l hl => ?_⟩⟩
      have e : l = 0 := by omega
      subst e
      refine ⟨p4, rfl, ?_⟩
      rw [upd_ne (ne_of_none upd_same ht), upd_same]
    · rintro i σ H' hi ⟨x2, x3, x4, x5, x6, rfl, hs, ⟨rs, hT, hlen, hrow⟩⟩
      have hi' : i < n := by omega
      obtain ⟨a, ha, hA⟩ := hrow i (by omega)
      -- last = table[-1]
      refine ⟨_, rfl, _, rfl, t, _, _, _, rfl, rfl, SqL.of hT, at_end hlen ha, ?_⟩
      refine ⟨Nat.zero_le _, fun r hr' => ?_⟩
      have hrH : H r = none := hs.free hr'
      have nar : a ≠ r := ne_of_none hA hr'
      have ntr : t ≠ r := ne_of_none hT hr'
      -- for height in range(points + 1)
      refine ⟨_, rfl, _, _, rfl, rfl, _, rfl, by omega, by omega, ?_⟩
      refine for_range (lo := 0) (n := ((n : Int) + 1).toNat) (fun j σ H2 => ∃ x5 x6, σ = [some (.int (n : Int)), some (.ref t), some (.int (0 + (i : Int))), some (.ref a), some (.ref r), x5, x6] ∧ H2 = upd H' r (.lst (rowI (i + 1) j))) ?_ ?_ ?_
      · exact ⟨_, _, rfl, rfl⟩
      · rintro j σ H2 hj ⟨x5, x6, rfl, rfl⟩
        have hj' : j < n + 1 := by omega
        have hA2 : (upd H' r (.lst (rowI (i + 1) j))) a = some (.lst (rowV n i)) := by
          rw [upd_ne nar]
          exact hA
        refine ⟨fun σ' H3 => σ' = [some (.int (n : Int)), some (.ref t), some (.int (0 + (i : Int))), some (.ref a), some (.ref r), some (.int (0 + (j : Int))), some (.int (if 0 < j then (j : Int) * (cnt i (j - 1) : Int) else 0))] ∧ H3 = upd H' r (.lst (rowI (i + 1) j)), ?_, ?_⟩
        · refine ⟨_, rfl, _, _, rfl, rfl, _, rfl, ?_⟩
          by_cases c : 0 < j
          · rw [decide_eq_true (show (0 : Int) < 0 + (j : Int) by omega)]
            refine iteT ?_
            refine ⟨_, rfl, _, rfl, _, rfl, _, _, rfl, rfl, a, _, _, _, rfl, rfl, SqL.of hA2, at_of (j := j - 1) (by omega) (rowV_at (by omega)), _, _, rfl, rfl, .inl ⟨by omega, by omega⟩, ?_⟩
            refine ⟨?_, rfl⟩
            rw [if_pos c, show (0 : Int) + (j : Int) = (j : Int) by omega]
            rfl
          · rw [decide_eq_false (show ¬ (0 : Int) < 0 + (j : Int) by omega)]
            refine iteF ⟨?_, rfl⟩
            rw [if_neg c]
            rfl
        rintro σ' H3 ⟨rfl, rfl⟩
        refine ⟨_, rfl, .inl ⟨rfl, _, SqL.of upd_same⟩, ?_⟩
        refine ⟨_, rfl, _, rfl, a, _, _, _, rfl, rfl, SqL.of hA2, at_of (j := j) (by omega) (rowV_at (by omega)), ?_⟩
        refine ⟨_, rfl, _, rfl, _, _, rfl, rfl, a, _, _, _, rfl, rfl, SqL.of hA2, at_of (j := j + 1) (by omega) (rowV_at (by omega)), ?_⟩
        refine ⟨_, _, rfl, rfl, _, rfl, _, _, rfl, rfl, ?_⟩
        refine ⟨r, _, _, rfl, rfl, upd_same, szl (by rw [rowI_len]; omega), ?_⟩
        refine ⟨_, _, rfl, ?_⟩
        rw [upd_upd, rowI_succ, ← cnt_step]
      · rintro σ H2 ⟨x5, x6, rfl, rfl⟩
        rw [hn1]
        have hT2 : (upd H' r (.lst (rowI (i + 1) (n + 1)))) t = some (.lst rs) := by
          rw [upd_ne ntr]
          exact hT
        -- table.append(row + [0])
        refine ⟨_, rfl, .inl ⟨rfl, _, SqL.of hT2⟩, _, rfl, (by show 1 ≤ sizeLine; decide), fun p hp => ?_⟩
        have hr2 : (upd H' r (.lst (rowI (i + 1) (n + 1)))) r = some (.lst (rowI (i + 1) (n + 1))) := upd_same
        refine ⟨r, p, _, _, rfl, rfl, by rw [upd_ne (ne_of_none hr2 hp)]; exact hr2, upd_same, by rw [rowI_len]; exact sz (by show n + 1 + 1 ≤ 100000; omega), fun u hu => ?_⟩
        rw [rowI_all (show i + 1 ≤ n by omega)]
        have s2 : Same H' (upd (upd (upd H' r (.lst (rowI (i + 1) (n + 1)))) p (.lst [.int 0])) u (.lst (rowV n (i + 1)))) := ((sm_new hr').trans (sm_new hp)).trans (sm_new hu)
        refine ⟨t, _, _, rfl, rfl, s2 _ _ hT, szl (by omega), ?_⟩
        have htu : u ≠ t := Ne.symm (ne_of_none ((((sm_new hr').trans (sm_new hp))) _ _ hT) hu)
        refine ⟨_, _, _, _, _, rfl, sm_mut (hs.trans s2) htH, ⟨_, upd_same, by rw [List.length_append, hlen]; rfl, fun l hl => ?_⟩⟩
        by_cases c : l < i + 1
        · obtain ⟨b, hb, hB⟩ := hrow l c
          refine ⟨b, by rw [List.getElem?_append_left (by omega)]; exact hb, ?_⟩
          rw [upd_ne (tab_ne hT hb hB (by omega))]
          exact s2 _ _ hB
        · have e : l = i + 1 := by omega
          subst e
          refine ⟨u, by rw [List.getElem?_append_right (by omega), hlen, Nat.sub_self]; rfl, ?_⟩
          rw [upd_ne htu, upd_same]
    · rintro σ H' ⟨x2, x3, x4, x5, x6, rfl, hs, hT⟩
      refine ⟨_, rfl, ?_⟩
      rw [show ((n : Int)).toNat = n by omega] at hT
      exact q H' t hs htH hT
end
end Pg

namespace Pg
open PySem L2
section
variable {P : Program} {w : World} {K : PySem.W.Frag} {mg : Str → Option Value} {base : Heap} {ca : CA}
abbrev s_pairing_of : Stmt := topS 6
theorem sc_pairing_of : FnScope ["walk", "pairs", "open_ones", "point", "step"] ["walk"] (defScope s_pairing_of) := ⟨rfl, rfl, rfl, by decide +kernel, rfl, by decide +kernel, by decide +kernel⟩
/-- of a walk: its pairing (nothing is refused) -/
def sp_pairing_of (K : PySem.W.Frag) : Sp := fun vs H Q _ => ∃ (a : Addr) (ws : List Stp), vs = [.ref a] ∧ SqL K H a (ws.map Stp.v) ∧ run 0 ws = some 0 ∧ ws.length ≤ 60 ∧
  ∀ (H' : Hp) (v : V), Same H H' → PairingAt H' v (ws.length : Int) (prs ws) → Q v H'
theorem ok_pairing_of (T : Txt K mg ca) (D : Def K mg "pairing_of" ["walk"] s_pairing_of) : Known P w K mg base CX0 1 "pairing_of" ["walk"] (sp_pairing_of K) := by
  refine D.known fun f fd F => F.ok sc_pairing_of (fun vs H Q E h => ?_) (fun cdv A outer s H vs Q E hr h => ?_)
  · obtain ⟨_, _, rfl, _⟩ := h
    rfl
  · obtain ⟨a, ws, rfl, hS, hrun, hlen, q⟩ := h
    refine ⟨_, (pss_cons (ps_if (pt_cmpR op_gt (pe_callB (callLen K) (by rfl) T.z_len PySem.boot_len (pa_cons (pv 0) pa_nil)) (pe_gi T.g_MOST) (nomark _))
      (pss_one ps_never)
      pss_nil)
      (pss_cons (ps_set (i := 1) sc_pairing_of.nd rfl (Or.inl rfl) (pe_lst pa_nil))
      (pss_cons (ps_set (i := 2) sc_pairing_of.nd rfl (Or.inl rfl) (pe_lst pa_nil))
      (pss_cons (ps_for PassesOwn.never rfl (pi_range1 (by rfl) T.z_range (pa_cons (pe_callB (callLen K) (by rfl) T.z_len PySem.boot_len (pa_cons (pv 0) pa_nil)) pa_nil)) (pg_name (i := 3) sc_pairing_of.nd rfl (Or.inl rfl))
      (pss_cons (ps_set (i := 4) sc_pairing_of.nd rfl (Or.inl rfl) (pe_ix (ixL K) (pv 0) (pv 3) (fun _ _ => rfl)))
      (pss_one (ps_if (pt_cmpR op_eq (pv 4) pe_str (nomark _))
      (pss_one (ps_expr (peM K PySem.F.plainAttrs_list PySem.F.slot_list_append PySem.F.type_list_append mt_append (pv 2) (pa_cons (pv 3) pa_nil))))
      (pss_one (ps_if (pt_cmpR op_ne (pv 4) pe_str (nomark _))
      (pss_cons (ps_if (PW.pt (pw_or (pt_val (pe_callB (callIsi K) (by rfl) T.z_isinstance (by decide +kernel) (pa_cons (pv 4) (pa_cons (pe_bltn (v := .ty "str") (by rfl) T.z_str (by decide +kernel) rfl) pa_nil)))) (pw_or (pt_cmpR op_lt (pv 4) pe_int (nomark _)) (pw_or1 (pt_cmpR op_ge (pv 4) (pe_callB (callLen K) (by rfl) T.z_len PySem.boot_len (pa_cons (pv 2) pa_nil)) (nomark _))))))
      (pss_one ps_never)
      pss_nil)
      (pss_one (ps_expr (peM K PySem.F.plainAttrs_list PySem.F.slot_list_append PySem.F.type_list_append mt_append (pv 1) (pa_cons (pe_tup (pa_cons (peM K PySem.F.plainAttrs_list PySem.F.slot_list_pop PySem.F.type_list_pop mt_popAt (pv 2) (pa_cons (pv 4) pa_nil)) (pa_cons (pv 3) pa_nil))) pa_nil)))))
      pss_nil))))))
      (pss_cons (ps_if (pt_cmpR op_gt (pe_callB (callLen K) (by rfl) T.z_len PySem.boot_len (pa_cons (pv 2) pa_nil)) pe_int (nomark _))
      (pss_one ps_never)
      pss_nil)
      (pss_one (ps_ret (pe_tup (pa_cons (pe_callB (callLen K) (by rfl) T.z_len PySem.boot_len (pa_cons (pv 0) pa_nil)) (pa_cons (pe_callTy (callTup K) (by rfl) T.z_tuple (by decide +kernel) (pa_cons (pe_callB (cr_sortedPP K) (by rfl) T.z_sorted (by decide +kernel) (pa_cons (pv 1) pa_nil)) pa_nil)) pa_nil)))))))))), ?_⟩
    refine ⟨_, rfl, a, _, rfl, .inl hS, _, _, rfl, rfl, _, rfl, ?_⟩
    rw [List.length_map, decide_eq_false (by omega)]
    refine iteF ?_
    refine ⟨Nat.zero_le _, fun r hr' => ?_⟩
    refine ⟨Nat.zero_le _, fun o ho => ?_⟩
    have nro : r ≠ o := ne_of_none upd_same ho
    have hoH : H o = none := by
      rw [upd_ne (Ne.symm nro)] at ho
      exact ho
    have s1 := (sm_new (o := .lst []) hr').trans (sm_new (o := .lst []) ho)
    refine ⟨_, rfl, a, _, rfl, .inl (s1.seq hS), _, rfl, by omega, (by rw [List.length_map]; omega), ?_⟩
    refine for_range (lo := 0) (n := ((ws.map Stp.v).length : Int).toNat) (fun i σ H' => ∃ (xs : List V) (x3 x4 : Option V), σ = [some (.ref a), some (.ref r), some (.ref o), x3, x4] ∧
      Same H H' ∧ H' o = some (.lst ((osAt ws i).map V.int)) ∧ H' r = some (.lst xs) ∧ PairsAt H' xs (prAt ws i)) ?_ ?_ ?_
    · exact ⟨[], none, none, rfl, s1, upd_same, by rw [upd_ne nro, upd_same], .nil⟩
    · rintro i σ H' hi ⟨xs, x3, x4, rfl, hs, hO, hR, hP⟩
      have hi' : i < ws.length := by
        rw [List.length_map] at hi
        omega
      obtain ⟨st, hst, hv⟩ := step_at hi'
      have hA : SqL K H' a (ws.map Stp.v) := hs.seq hS
      have hat : atI (ws.map Stp.v) (0 + (i : Int)) = some st.v := at_of (j := i) (by omega) hv
      have e1 := os_succ hst
      have e2 := pr_succ hst
      have hos := os_le ws i
      have hpr := pr_le ws i
      refine ⟨_, rfl, _, rfl, a, _, _, _, rfl, rfl, hA, hat, ?_⟩
      cases st with
      | opn =>
        refine ⟨_, rfl, rfl, _, rfl, iteT ?_⟩
        refine ⟨_, rfl, .inl ⟨rfl, _, SqL.of hO⟩, _, rfl, o, _, _, rfl, rfl, hO, szl (by rw [List.length_map]; omega), ?_⟩
        refine ⟨xs, _, _, rfl, sm_mut hs hoH, ?_, (by rw [upd_ne nro]; exact hR), ?_⟩
        · rw [upd_same, e1]
          show _ = some (HO.lst ((osAt ws i ++ [(i : Int)]).map V.int))
          rw [List.map_append, Int.zero_add]
          rfl
        · rw [e2]
          show PairsAt _ xs (prAt ws i ++ [])
          rw [List.append_nil]
          exact upd_pairs hO hP
      | lone =>
        refine ⟨_, rfl, rfl, _, rfl, iteF ?_⟩
        refine ⟨_, rfl, rfl, _, rfl, iteF ?_⟩
        refine ⟨xs, _, _, rfl, hs, ?_, hR, ?_⟩
        · rw [e1]
          exact hO
        · rw [e2]
          show PairsAt _ xs (prAt ws i ++ [])
          rw [List.append_nil]
          exact hP
      | num k =>
        have hk := os_num hrun hst
        refine ⟨_, rfl, rfl, _, rfl, iteF ?_⟩
        refine ⟨_, rfl, rfl, _, rfl, iteT ?_⟩
        -- isinstance(step, str) or step < 0 or step >= len(open_ones)
        refine ⟨_, rfl, .int (k : Int), .ty "str", .type "int", .type "str", false, rfl, .ty _, .base (.int _), kit_ty (by decide +kernel), _, rfl, iteF ?_⟩
        refine ⟨_, rfl, _, _, rfl, rfl, _, rfl, ?_⟩
        rw [decide_eq_false (show ¬ (k : Int) < 0 by omega)]
        refine iteF ?_
        refine ⟨_, rfl, _, rfl, o, _, rfl, .inl (SqL.of hO), _, _, rfl, rfl, _, rfl, ?_⟩
        rw [List.length_map, decide_eq_false (show ¬ ((osAt ws i).length : Int) ≤ (k : Int) by omega)]
        refine iteF ?_
        -- pairs.append((open_ones.pop(step), point))
        refine ⟨_, rfl, .inl ⟨rfl, _, SqL.of hR⟩, _, rfl, .inl ⟨rfl, _, SqL.of hO⟩, _, rfl, ?_⟩
        refine ⟨o, _, (k : Int), k, .int ((osAt ws i).getD k 0), rfl, rfl, hO, by omega, by omega, (ixN_seq (ixn rfl (by rw [List.length_map]; exact hk))).1, ?_, ?_⟩
        · rw [List.getElem?_map, List.getElem?_eq_getElem hk, List.getD_eq_getElem?_getD, List.getElem?_eq_getElem hk]
          rfl
        refine ⟨_, rfl, (by show 2 ≤ sizeLine; decide), fun t ht => ?_⟩
        have hOt : (upd H' o (.lst (((osAt ws i).map V.int).eraseIdx k))) o = some (.lst (((osAt ws i).map V.int).eraseIdx k)) := upd_same
        have not' : o ≠ t := ne_of_none hOt ht
        have hT : H' t = none := by
          rw [upd_ne (Ne.symm not')] at ht
          exact ht
        have nrt : r ≠ t := ne_of_none hR hT
        refine ⟨r, xs, _, rfl, rfl, (by rw [upd_ne nrt, upd_ne nro]; exact hR), szl (by rw [paired_length hP]; omega), ?_⟩
        refine ⟨xs ++ [.ref t], _, _, rfl, ?_, ?_, upd_same, ?_⟩
        · intro b z hb
          have hb1 := hs b z hb
          rw [upd_ne (fun e => by rw [e, hr'] at hb; cases hb), upd_ne (ne_of_none hb1 hT), upd_ne (fun e => by rw [e, hoH] at hb; cases hb)]
          exact hb1
        · rw [upd_ne (Ne.symm nro), upd_ne not', upd_same, e1, erase_mapI]
          rfl
        · rw [e2]
          show PairsAt _ _ (prAt ws i ++ [((osAt ws i).getD k 0, (i : Int))])
          have p1 : PairsAt (upd H' o (.lst (((osAt ws i).map V.int).eraseIdx k))) xs (prAt ws i) := upd_pairs hO hP
          refine paired_append (upd_pairs (o := .lst xs) (by rw [upd_ne nrt, upd_ne nro]; exact hR) (PairsAt.mono (sm_new ht) p1)) (.cons ⟨t, rfl, ?_⟩ .nil)
          rw [upd_ne (Ne.symm nrt), upd_same, Int.zero_add]
    · rintro σ H' ⟨xs, x3, x4, rfl, hs, hO, hR, hP⟩
      have hA : SqL K H' a (ws.map Stp.v) := hs.seq hS
      have e : (((ws.map Stp.v).length : Int)).toNat = ws.length := by
        rw [List.length_map]
        omega
      have eo : osAt ws ws.length = [] := by
        show opens 0 [] (ws.take ws.length) = []
        rw [List.take_length]
        exact List.length_eq_zero_iff.mp (opens_len ws 0 [] hrun)
      rw [e] at hO hP
      rw [eo] at hO
      rw [prAt_all] at hP
      refine ⟨_, rfl, o, _, rfl, .inl (SqL.of hO), _, _, rfl, rfl, _, rfl, iteF ?_⟩
      refine ⟨_, rfl, a, _, rfl, .inl hA, _, rfl, r, xs, _, rfl, SqL.of hR, hP, fun ys p hy hperm hp => ?_⟩
      refine ⟨p, ys, rfl, .inl ⟨SqL.of upd_same, fun t ht => ?_⟩⟩
      refine ⟨(by show 2 ≤ sizeLine; decide), fun u hu => ?_⟩
      refine q _ _ (((hs.trans (sm_new hp)).trans (sm_new ht)).trans (sm_new hu)) ⟨u, t, ys, rfl, ?_, ?_, ?_⟩
      · rw [upd_same, List.length_map]
      · rw [upd_ne (ne_of_none upd_same hu), upd_same]
      · exact ((hy.mono (sm_new hp)).mono (sm_new ht)).mono (sm_new hu)
end
end Pg

namespace Pg
open PySem L2
section
variable {P : Program} {w : World} {K : PySem.W.Frag} {mg : Str → Option Value} {base : Heap} {ca : CA}
abbrev s_steps_at : Stmt := topS 10
theorem sc_steps_at : FnScope ["height", "found", "step"] ["height"] (defScope s_steps_at) := ⟨rfl, rfl, rfl, by decide +kernel, rfl, by decide +kernel, by decide +kernel⟩
/-- what a walk can do next, a new list -/
def sp_steps_at (K : PySem.W.Frag) : Sp := fun vs H Q _ => ∃ h : Nat, vs = [.int (h : Int)] ∧ h ≤ 1000 ∧ ∀ (H' : Hp) (p : Addr) (xs : List V), Same H H' → H p = none → H' p = some (.lst xs) → Paired (OptAt H') xs (opts h) → Q (.ref p) H'
theorem ok_steps_at (T : Txt K mg ca) (D : Def K mg "steps_at" ["height"] s_steps_at) : Known P w K mg base CX0 1 "steps_at" ["height"] (sp_steps_at K) := by
  refine D.known fun f fd F => F.ok sc_steps_at (fun vs H Q E h => ?_) (fun cdv A outer s H vs Q E hr h => ?_)
  · obtain ⟨_, rfl, _⟩ := h
    rfl
  · obtain ⟨h, rfl, hh, q⟩ := h
    refine ⟨_, (pss_cons (ps_set (i := 1) sc_steps_at.nd rfl (Or.inl rfl) (pe_lst (pa_cons (pe_tup (pa_cons pe_str (pa_cons (pv 0) pa_nil))) (pa_cons (pe_tup (pa_cons pe_str (pa_cons (pe_op op_add (pv 0) pe_int) pa_nil))) pa_nil))))
      (pss_cons (ps_expr (peM K PySem.F.plainAttrs_list PySem.F.slot_list_extend PySem.F.type_list_extend mt_extend (pv 1) (pa_cons (pe_lc (own := [("step", 2)]) (g := gName 2) (tt := tYes) rfl sc_steps_at.nd (pi_range1 (by rfl) T.z_range (pa_cons (pv 0) pa_nil)) (blkOk_by (N := ["height", "found", "step"]) (sc := defScope s_steps_at) (by decide +kernel)) (fun _ _ _ _ _ => (pg_name (i := 2) sc_steps_at.nd rfl (Or.inl rfl))) (fun _ _ _ _ _ => pts_nil) (fun _ _ _ _ _ => (pe_tup (pa_cons (pv 2) (pa_cons (pe_op op_sub (pv 0) pe_int) pa_nil))))) pa_nil)))
      (pss_one (ps_ret (pv 1))))), ?_⟩
    refine ⟨_, rfl, (by show 2 ≤ sizeLine; decide), fun t1 ht1 => ?_⟩
    refine ⟨_, rfl, _, _, rfl, rfl, (by show 2 ≤ sizeLine; decide), fun t2 ht2 => ?_⟩
    refine ⟨(by show 2 ≤ sizeLine; decide), fun g hg => ?_⟩
    have s2 := (sm_new (o := .tup [.str "lone", .int (h : Int)]) ht1).trans (sm_new (o := .tup [.str "open", .int ((h : Int) + 1)]) ht2)
    have hgH : H g = none := s2.free hg
    have h1 := sm_new (o := .lst [.ref t1, .ref t2]) hg _ _ (sm_new (o := .tup [.str "open", .int ((h : Int) + 1)]) ht2 _ _ upd_same)
    have h2 := sm_new (o := .lst [.ref t1, .ref t2]) hg _ _ (upd_same (H := upd H t1 (.tup [.str "lone", .int (h : Int)])) (a := t2) (o := .tup [.str "open", .int ((h : Int) + 1)]))
    refine ⟨_, rfl, .inl ⟨rfl, _, SqL.of upd_same⟩, ?_⟩
    with_reducible refine cns ?_
    refine lcRA (n := h) OptAt (nums h) (fun e r => r.mono e) (fun e r => r.stab e) (fun Q q => ⟨_, rfl, q _ (Same.refl _)⟩) (by unfold nums; rw [List.length_map, List.length_range]) (by omega) (fun i b hi hb H1 s1 Q Z k => ?_) (fun H' p ys s3 hp hys hP => ?_)
    · have eb : b = (Stp.num i, h - 1) := by
        unfold nums at hb
        rw [List.getElem?_map, List.getElem?_range hi] at hb
        exact (Option.some.inj hb).symm
      subst eb
      refine ⟨rfl, yesI ⟨_, rfl, _, rfl, _, _, rfl, rfl, (by show 2 ≤ sizeLine; decide), fun t ht => ?_⟩⟩
      refine k _ _ (sm_new ht) ⟨t, rfl, ?_⟩
      rw [upd_same, show (((Stp.num i, h - 1) : Opt).2 : Int) = (h : Int) - 1 by show ((h - 1 : Nat) : Int) = _; omega]
      rfl
    · have hg3 := s3 _ _ (upd_same (H := upd (upd H t1 (.tup [.str "lone", .int (h : Int)])) t2 (.tup [.str "open", .int ((h : Int) + 1)])) (a := g) (o := .lst [.ref t1, .ref t2]))
      have hl := paired_length hP
      have hl2 : (nums h).length = h := by unfold nums; rw [List.length_map, List.length_range]
      refine ⟨g, p, _, _, rfl, rfl, hg3, hys, sz (by show 2 + ys.length ≤ 100000; omega), ?_⟩
      refine ⟨_, rfl, q _ g ([.ref t1, .ref t2] ++ ys) (sm_mut ((s2.trans (sm_new hg)).trans s3) hgH) hgH upd_same ?_⟩
      have d1 : OptAt H' (.ref t1) (.lone, h) := ⟨t1, rfl, s3 _ _ h1⟩
      have d2 : OptAt H' (.ref t2) (.opn, h + 1) := ⟨t2, rfl, s3 _ _ h2⟩
      exact .cons (d1.stab hg3) (.cons (d2.stab hg3) (paired_mono (fun r => r.stab hg3) hP))
end
end Pg

namespace Pg
open PySem L2
section
variable {P : Program} {w : World} {K : PySem.W.Frag} {mg : Str → Option Value} {base : Heap} {ca : CA}
abbrev s_told : Stmt := topS 11
theorem sc_told : FnScope ["points", "number", "table", "walk", "height", "left", "step", "behind", "many"] ["points", "number"] (defScope s_told) := ⟨rfl, rfl, rfl, by decide +kernel, rfl, by decide +kernel, by decide +kernel⟩
/-- the pairing of a number -/
def sp_told (K : PySem.W.Frag) : Sp := fun vs H Q _ => ∃ (n j : Nat), vs = [.int (n : Int), .int (j : Int)] ∧ n ≤ 60 ∧ j < cnt n 0 ∧ ∀ (H' : Hp) (v : V), Same H H' → PairingAt H' v (n : Int) (prs (unr n 0 j)) → Q v H'
theorem ok_told (T : Txt K mg ca) (D : Def K mg "told" ["points", "number"] s_told) (G_endings : Known P w K mg base CX0 1 "endings" ["points"] (sp_endings K)) (G_pairing_of : Known P w K mg base CX0 1 "pairing_of" ["walk"] (sp_pairing_of K)) (G_steps_at : Known P w K mg base CX0 1 "steps_at" ["height"] (sp_steps_at K)) : Known P w K mg base CX0 2 "told" ["points", "number"] (sp_told K) := by
  refine D.known fun f fd F => F.ok sc_told (fun vs H Q E h => ?_) (fun cdv A outer s H vs Q E hr h => ?_)
  · obtain ⟨_, _, rfl, _⟩ := h
    rfl
  · obtain ⟨n, j0, rfl, h60, hj0, q⟩ := h
    refine ⟨_, (pss_cons (ps_set (i := 2) sc_told.nd rfl (Or.inl rfl) (pe_kc G_endings (hr.mono (by decide)) (by rfl) pass0 (pa_cons (pv 0) pa_nil)))
      (pss_cons (ps_if (PW.pt (pw_or (pt_cmpR op_lt (pv 1) pe_int (nomark _)) (pw_or1 (pt_cmpR op_ge (pv 1) (pe_ix (ixL K) (pe_ix (ixL K) (pv 2) (pv 0) (fun _ _ => rfl)) pe_int (fun _ _ => rfl)) (nomark _)))))
      (pss_one ps_never)
      pss_nil)
      (pss_cons (ps_set (i := 3) sc_told.nd rfl (Or.inl rfl) (pe_lst pa_nil))
      (pss_cons (ps_set (i := 4) sc_told.nd rfl (Or.inl rfl) pe_int)
      (pss_cons (ps_for PassesOwn.never rfl (pi_range3 (by rfl) T.z_range (pa_cons (pe_op op_sub (pv 0) pe_int) (pa_cons (pe_un un_neg pe_int) (pa_cons (pe_un un_neg pe_int) pa_nil)))) (pg_name (i := 5) sc_told.nd rfl (Or.inl rfl))
      (pss_one (ps_for PassesOwn.never rfl (piL K (pe_kc G_steps_at (hr.mono (by decide)) (by rfl) pass0 (pa_cons (pv 4) pa_nil))) (pgT K rfl (pgs_cons (pg_name (i := 6) sc_told.nd rfl (Or.inl rfl)) (pgs_cons (pg_name (i := 7) sc_told.nd rfl (Or.inl rfl)) pgs_nil)))
      (pss_cons (ps_set (i := 8) sc_told.nd rfl (Or.inl rfl) (pe_ix (ixL K) (pe_ix (ixL K) (pv 2) (pv 5) (fun _ _ => rfl)) (pv 7) (fun _ _ => rfl)))
      (pss_cons (ps_if (pt_cmpR op_lt (pv 1) (pv 8) (nomark _))
      (pss_cons (ps_expr (peM K PySem.F.plainAttrs_list PySem.F.slot_list_append PySem.F.type_list_append mt_append (pv 3) (pa_cons (pv 6) pa_nil)))
      (pss_cons (ps_set (i := 4) sc_told.nd rfl (Or.inl rfl) (pv 7))
      (pss_one ps_break)))
      pss_nil)
      (pss_one (ps_set (i := 1) sc_told.nd rfl (Or.inl rfl) (pe_op op_sub (pv 1) (pv 8)))))))))
      (pss_one (ps_ret (pe_kc G_pairing_of (hr.mono (by decide)) (by rfl) pass0 (pa_cons (pv 3) pa_nil))))))))), ?_⟩
    refine ⟨_, rfl, n, rfl, h60, fun H1 t s1 ht ⟨rs, hT, hlen, hrow⟩ => ?_⟩
    obtain ⟨a, ha, hA⟩ := hrow n (by omega)
    -- if number < 0 or number >= table[points][0]
    refine ⟨_, rfl, _, _, rfl, rfl, _, rfl, ?_⟩
    rw [decide_eq_false (show ¬ (j0 : Int) < 0 by omega)]
    refine iteF ⟨_, rfl, _, rfl, _, rfl, t, _, _, _, rfl, rfl, SqL.of hT, atI_nat ha, a, _, 0, _, rfl, rfl, SqL.of hA, atI_nat (j := 0) (rowV_at (by omega)), _, _, rfl, rfl, _, rfl, ?_⟩
    rw [decide_eq_false (show ¬ (cnt n 0 : Int) ≤ (j0 : Int) by omega)]
    refine iteF ?_
    refine ⟨Nat.zero_le _, fun w hw => ?_⟩
    have hwH : H w = none := s1.free hw
    -- for left in range(points - 1, -1, -1)
    refine ⟨_, rfl, _, _, rfl, rfl, _, rfl, _, rfl, (n : Int) - 1, -1, -1, ((n : Int) - 1 - -1).toNat, rfl, RgC.neg (by omega) (by omega) (by decide) (by decide), ?_⟩
    refine for_rangeC (fun i σ H' => ∃ (ws : List Stp) (h j : Nat) (x5 x6 x7 x8 : Option V), σ = [some (.int (n : Int)), some (.int (j : Int)), some (.ref t), some (.ref w), some (.int (h : Int)), x5, x6, x7, x8] ∧ Same H1 H' ∧ H' w = some (.lst (ws.map Stp.v)) ∧
      ws.length = i ∧ h ≤ i ∧ j < cnt (n - i) h ∧ ws ++ unr (n - i) h j = unr n 0 j0) ?_ ?_ ?_
    · exact ⟨[], 0, j0, none, none, none, none, rfl, sm_new hw, upd_same, rfl, Nat.le_refl _, hj0, rfl⟩
    · rintro i σ H' hi ⟨ws, h, j, x5, x6, x7, x8, rfl, hs, hW, hwl, hhi, hj, hU⟩
      have hi' : i < n := by omega
      obtain ⟨l, hl⟩ : ∃ l : Nat, n - i = l + 1 := ⟨n - i - 1, by omega⟩
      rw [hl] at hj hU
      have eleft : (n : Int) - 1 + i * -1 = (l : Int) := by omega
      obtain ⟨al, hal, hAl⟩ := hrow l (by omega)
      refine ⟨_, rfl, h, rfl, by omega, fun H2 p xs s2 hp hxs hP => ?_⟩
      have hW2 := s2 _ _ hW
      have hT2 := s2 _ _ (hs _ _ hT)
      have hAl2 := s2 _ _ (hs _ _ hAl)
      have hxl := paired_length hP
      refine ⟨p, rfl, ⟨_, SqL.of hxs⟩, ?_⟩
      refine for_list (K := K) (a := p) (xs := xs) (fun m σ H' => ∃ (j' : Nat) (x6 x7 x8 : Option V), σ = [some (.int (n : Int)), some (.int (j' : Int)), some (.ref t), some (.ref w), some (.int (h : Int)), some (.int (l : Int)), x6, x7, x8] ∧ H' = H2 ∧
        j' < tot l ((opts h).drop m) ∧ pick l (opts h) j = pick l ((opts h).drop m) j') ?_ (fun m σ H' _ ⟨_, _, _, _, _, e, _⟩ => by rw [e]; exact SqL.of hxs) ?_ ?_
      · refine ⟨j, x6, x7, x8, ?_, rfl, by rw [List.drop_zero, tot_opts]; exact hj, rfl⟩
        rw [eleft]
        rfl
      · rintro m x σ H' hx ⟨j', x6, x7, x8, rfl, rfl, hj', hpk⟩
        obtain ⟨⟨st, b⟩, ho, t', rfl, ht'⟩ := paired_get' hP hx
        have hd := drop_step ho
        have hom := List.mem_of_getElem? ho
        rw [hd] at hj' hpk
        rw [tot_cons] at hj'
        have hb : b ≤ h + 1 := by
          have e := opts_beh hom
          have e2 : b = beh h st := e
          cases st <;> simp only [beh] at e2 <;> omega
        refine ⟨t', _, rfl, SqT.of ht', rfl, _, _, rfl, _, _, rfl, rfl, ?_⟩
        -- many = table[left][behind]
        refine ⟨_, rfl, _, rfl, t, _, _, _, rfl, rfl, SqL.of hT2, atI_nat hal, _, rfl, al, _, _, _, rfl, rfl, SqL.of hAl2, atI_nat (rowV_at (h := b) (by omega)), ?_⟩
        refine ⟨_, rfl, _, rfl, _, _, rfl, rfl, _, rfl, ?_⟩
        have hpk2 : pick l ((st, b) :: (opts h).drop (m + 1)) j' = if j' < cnt l b then (st, b, j') else pick l ((opts h).drop (m + 1)) (j' - cnt l b) := rfl
        by_cases c : j' < cnt l b
        · rw [decide_eq_true (show (j' : Int) < (cnt l b : Int) by omega)]
          rw [hpk2, if_pos c] at hpk
          refine iteT ?_
          refine ⟨_, rfl, .inl ⟨rfl, _, SqL.of hW2⟩, _, rfl, w, _, _, rfl, rfl, hW2, szl (by rw [List.length_map, hwl]; omega), ?_⟩
          refine ⟨_, rfl, ?_⟩
          have hnl : n - (i + 1) = l := by omega
          refine ⟨ws ++ [st], b, j', _, _, _, _, rfl, sm_mut (hs.trans s2) hw, ?_, by rw [List.length_append, hwl]; rfl, by omega, by rw [hnl]; exact c, ?_⟩
          · rw [upd_same, List.map_append]
            rfl
          · rw [hnl, ← hU]
            show (ws ++ [st]) ++ unr l b j' = ws ++ ((pick l (opts h) j).1 :: unr l (pick l (opts h) j).2.1 (pick l (opts h) j).2.2)
            rw [hpk, List.append_assoc]
            rfl
        · rw [decide_eq_false (show ¬ (j' : Int) < (cnt l b : Int) by omega)]
          rw [hpk2, if_neg c] at hpk
          have hj2 : j' < cnt l b + tot l ((opts h).drop (m + 1)) := hj'
          refine iteF ?_
          refine ⟨_, rfl, _, rfl, _, _, rfl, rfl, ?_⟩
          refine ⟨j' - cnt l b, some st.v, some (.int (b : Nat)), some (.int (cnt l b : Nat)), ?_, rfl, by omega, hpk⟩
          rw [show ((j' - cnt l b : Nat) : Int) = (j' : Int) - (cnt l b : Int) by omega]
          rfl
      · rintro σ H' ⟨j', x6, x7, x8, rfl, rfl, hj', hpk⟩
        rw [hxl, List.drop_length] at hj'
        exact absurd hj' (Nat.not_lt_zero _)
    · rintro σ H' ⟨ws, h, j, x5, x6, x7, x8, rfl, hs, hW, hwl, hhi, hj, hU⟩
      have en : ((n : Int) - 1 - -1).toNat = n := by omega
      rw [en] at hwl hU hj
      rw [Nat.sub_self] at hU
      have hU2 : ws = unr n 0 j0 := by
        rw [← hU]
        exact (List.append_nil ws).symm
      obtain ⟨hrun, _⟩ := unr_run hj0
      rw [← hU2] at hrun
      refine ⟨_, rfl, w, ws, rfl, SqL.of hW, hrun, by omega, fun H2 v s2 hv => ?_⟩
      refine q H2 v ((s1.trans hs).trans s2) ?_
      rw [hwl, hU2] at hv
      exact hv
end
end Pg

namespace Pg
open PySem L2
section
variable {P : Program} {w : World} {K : PySem.W.Frag} {mg : Str → Option Value} {base : Heap} {ca : CA}
abbrev s_how_many : Stmt := topS 9
theorem sc_how_many : FnScope ["points"] ["points"] (defScope s_how_many) := ⟨rfl, rfl, rfl, by decide +kernel, rfl, by decide +kernel, by decide +kernel⟩
def sp_how_many (K : PySem.W.Frag) : Sp := fun vs H Q _ => ∃ n : Nat, vs = [.int (n : Int)] ∧ n ≤ 60 ∧ ∀ H', Same H H' → Q (.int (cnt n 0 : Nat)) H'
theorem ok_how_many (T : Txt K mg ca) (D : Def K mg "how_many" ["points"] s_how_many) (G_endings : Known P w K mg base CX0 1 "endings" ["points"] (sp_endings K)) : Known P w K mg base CX0 2 "how_many" ["points"] (sp_how_many K) := by
  refine D.known fun f fd F => F.ok sc_how_many (fun vs H Q E h => ?_) (fun cdv A outer s H vs Q E hr h => ?_)
  · obtain ⟨_, rfl, _⟩ := h
    rfl
  · obtain ⟨n, rfl, h60, q⟩ := h
    refine ⟨_, (pss_one (ps_ret (pe_ix (ixL K) (pe_ix (ixL K) (pe_kc G_endings (hr.mono (by decide)) (by rfl) pass0 (pa_cons (pv 0) pa_nil)) (pv 0) (fun _ _ => rfl)) pe_int (fun _ _ => rfl)))), ?_⟩
    refine ⟨_, rfl, n, rfl, h60, fun H1 t s1 ht ⟨rs, hT, hlen, hrow⟩ => ?_⟩
    obtain ⟨a, ha, hA⟩ := hrow n (by omega)
    refine ⟨_, rfl, t, _, _, _, rfl, rfl, SqL.of hT, atI_nat ha, ?_⟩
    exact ⟨a, _, 0, _, rfl, rfl, SqL.of hA, atI_nat (j := 0) (rowV_at (by omega)), q H1 s1⟩
end
end Pg

namespace Pg
open PySem L2
section
variable {P : Program} {w : World} {K : PySem.W.Frag} {mg : Str → Option Value} {base : Heap} {ca : CA}
abbrev s_law : Stmt := topS 21
theorem sc_law : FnScope ["script", "points", "number"] ["script"] (defScope s_law) := ⟨rfl, rfl, rfl, by decide +kernel, rfl, by decide +kernel, by decide +kernel⟩
def sp_law (K : PySem.W.Frag) : Sp := fun vs H Q _ => ∃ (a : Addr) (ns : List Int), vs = [.ref a] ∧ SqL K H a (ns.map V.int) ∧ ns.length ≤ 63 ∧ ∀ H', Q (.bl true) H'
theorem ok_law {f : Addr} {fd : FuncData} (T : Txt K mg ca) (F : Fun K "law" "law" s_law f fd) (G_law_cell_at : Known P w K mg base CX0 1 "_law_cell_at" ["script", "k"] (sp_law_cell_at K)) (G_law_all : Known P w K mg base CX0 2 "_law_all" ["points"] (sp_law_all K)) (G_told : Known P w K mg base CX0 2 "told" ["points", "number"] (sp_told K)) (G_how_many : Known P w K mg base CX0 2 "how_many" ["points"] (sp_how_many K)) : FnOk P w K mg base CX0 3 f fd ["script"] (sp_law K) := by
  refine F.ok sc_law (fun vs H Q E h => ?_) (fun cdv A outer s H vs Q E hr h => ?_)
  · obtain ⟨_, _, rfl, _⟩ := h
    rfl
  · obtain ⟨a, ns, rfl, hS, hlen, q⟩ := h
    refine ⟨_, (pss_cons (ps_set (i := 1) sc_law.nd rfl (Or.inr rfl) (pe_op op_mod (pe_kc G_law_cell_at (hr.mono (by decide)) (by rfl) pass0 (pa_cons (pv 0) (pa_cons pe_int pa_nil))) pe_int))
      (pss_one (ps_ret (pe_cmpR (eqD K hr.units) (pe_lc (own := [("number", 2)]) (g := gName 2) (tt := tYes) rfl sc_law.nd (pi_range1 (by rfl) T.z_range (pa_cons (pe_kc G_how_many (hr.mono (by decide)) (by rfl) pass0 (pa_cons (pv 1) pa_nil)) pa_nil)) (blkOk_by (N := ["script", "points", "number"]) (sc := defScope s_law) (by decide +kernel)) (fun _ _ _ _ _ => (pg_name (i := 2) sc_law.nd rfl (Or.inl rfl))) (fun _ _ _ _ _ => pts_nil) (fun _ _ _ _ _ => (pe_kc G_told (hr.mono (by decide)) (by rfl) pass0 (pa_cons (pv 1) (pa_cons (pv 2) pa_nil))))) (pe_kc G_law_all (hr.mono (by decide)) (by rfl) pass0 (pa_cons (pv 1) pa_nil)) (nomark _))))), ?_⟩
    refine ⟨_, rfl, a, ns, 0, rfl, hS, by decide, _, _, rfl, rfl, (by show (0 : Int) < 8; decide), ?_⟩
    obtain ⟨n, hn⟩ : ∃ n : Nat, cellAt ns 0 % 8 = (n : Int) := ⟨(cellAt ns 0 % 8).toNat, by omega⟩
    have hn7 : n ≤ 7 := by omega
    refine gnE (congrArg V.int hn) ?_
    with_reducible refine gn (retn (opp ?_))
    have hcf := cnt_few (show n ≤ 8 by omega)
    refine lcRA (n := cnt n 0) (fun H v ws => PairingAt H v (n : Int) (prs ws)) (allW n) (fun e h => h.mono e) (fun h hp => hp.stab h) (fun Q q => ?_) (allW_len n) (by omega) (fun i b hi hb H1 s1 Q Z k => ?_) (fun H1 p ys s1 hp hys hP => ?_)
    · exact ⟨_, rfl, n, rfl, by omega, fun H1 s1 => q H1 s1⟩
    · refine ⟨rfl, yesI ⟨_, rfl, _, rfl, n, i, rfl, by omega, hi, fun H2 v s2 hv => k H2 v s2 ?_⟩⟩
      have eb : b = unr n 0 i := by
        rw [allW_unr, List.getElem?_map, List.getElem?_range hi] at hb
        exact (Option.some.inj hb).symm
      rw [eb]
      exact hv
    · refine ⟨_, rfl, n, rfl, by omega, fun H2 p2 xs s2 hp2 hxs hP2 => ?_⟩
      have hP1 := paired_mono (fun {v b} (r : PairingAt H1 v (n : Int) (prs b)) => r.mono s2) hP
      refine ⟨.list ((allW n).map fun b => pgD n (prs b)), .list ((allW n).map fun b => pgD n (prs b)), .lst (SqL.of (s2 _ _ hys)) (pgs_dp hP1), .lst (SqL.of hxs) (pgs_dp hP2), (shp_pgs _ _).shaped, (shp_pgs _ _).shaped, ?_⟩
      rw [(shp_pgs _ _).refl]
      exact q _
end
end Pg

namespace Pg
open PySem L2
theorem def_mk {K : PySem.W.Frag} {mg : Str → Option Value} {h : Heap} (X : K.In h) (G : h.Ns mainGlobals mg) {x : Str} {st : Stmt} {ps : List Str} {f : Addr} {oc : Value} {od an : Option Addr} {osl : Array (Option Value)} {kV doc pm cdv ct : Value}
    (a : PySem.W.nsIn K mainGlobals x = some (some (.ref f))) (l : K.lookup f = some ⟨oc, od, .func (PySem.W.fnOf x x (defArgs st) (defBody st) (defScope st) .none kV doc pm an cdv ct), osl⟩) (c : PySem.W.codeIn K cdv x = true) (k : PySem.W.keepIn K (.ref f) = true)
    (b : ∀ (kV doc pm : Value) (an : Option Addr) (cdv ct : Value) (us : List Value), us.length = ps.length → bindArgs (PySem.W.fnOf x x (defArgs st) (defBody st) (defScope st) .none kV doc pm an cdv ct) ⟨us, []⟩ = pure (ps.zip us)) : Def K mg x ps st :=
  ⟨f, _, PySem.W.mg_of X G a, (fun_mk l c k).binds b, fun_mk l c k⟩
theorem all_mk {l : PySem.W.OpenLaw} {w : World} {K : PySem.W.Frag} {h : Heap} {mg : Str → Option Value} {fa f0 f1 f2 f3 f4 f5 f6 f7 f8 C_PairError C_NoWalk C_NoNumber : Addr} {od0 an0 : Option Addr} {sl0 : Array (Option Value)} {oc0 kV0 dc0 pm0 cd0 ct0 : Value} {od1 an1 : Option Addr} {sl1 : Array (Option Value)} {oc1 kV1 dc1 pm1 cd1 ct1 : Value} {od2 an2 : Option Addr} {sl2 : Array (Option Value)} {oc2 kV2 dc2 pm2 cd2 ct2 : Value} {od3 an3 : Option Addr} {sl3 : Array (Option Value)} {oc3 kV3 dc3 pm3 cd3 ct3 : Value} {od4 an4 : Option Addr} {sl4 : Array (Option Value)} {oc4 kV4 dc4 pm4 cd4 ct4 : Value} {od5 an5 : Option Addr} {sl5 : Array (Option Value)} {oc5 kV5 dc5 pm5 cd5 ct5 : Value} {od6 an6 : Option Addr} {sl6 : Array (Option Value)} {oc6 kV6 dc6 pm6 cd6 ct6 : Value} {od7 an7 : Option Addr} {sl7 : Array (Option Value)} {oc7 kV7 dc7 pm7 cd7 ct7 : Value} {od8 an8 : Option Addr} {sl8 : Array (Option Value)} {oc8 kV8 dc8 pm8 cd8 ct8 : Value} {t_MOST : Tok} (X : K.In h) (G : h.Ns mainGlobals mg) (hfa : mg "law" = some (.ref fa))
    (a0 : PySem.W.nsIn K mainGlobals "_law_cell_at" = some (some (.ref f0))) (l0 : K.lookup f0 = some ⟨oc0, od0, .func (PySem.W.fnOf "_law_cell_at" "_law_cell_at" (defArgs s_law_cell_at) (defBody s_law_cell_at) (defScope s_law_cell_at) .none kV0 dc0 pm0 an0 cd0 ct0), sl0⟩) (c0 : PySem.W.codeIn K cd0 "_law_cell_at" = true) (k0 : PySem.W.keepIn K (.ref f0) = true)
    (a1 : PySem.W.nsIn K mainGlobals "_law_of_walk" = some (some (.ref f1))) (l1 : K.lookup f1 = some ⟨oc1, od1, .func (PySem.W.fnOf "_law_of_walk" "_law_of_walk" (defArgs s_law_of_walk) (defBody s_law_of_walk) (defScope s_law_of_walk) .none kV1 dc1 pm1 an1 cd1 ct1), sl1⟩) (c1 : PySem.W.codeIn K cd1 "_law_of_walk" = true) (k1 : PySem.W.keepIn K (.ref f1) = true)
    (a2 : PySem.W.nsIn K mainGlobals "_law_all" = some (some (.ref f2))) (l2 : K.lookup f2 = some ⟨oc2, od2, .func (PySem.W.fnOf "_law_all" "_law_all" (defArgs s_law_all) (defBody s_law_all) (defScope s_law_all) .none kV2 dc2 pm2 an2 cd2 ct2), sl2⟩) (c2 : PySem.W.codeIn K cd2 "_law_all" = true) (k2 : PySem.W.keepIn K (.ref f2) = true)
    (a3 : PySem.W.nsIn K mainGlobals "endings" = some (some (.ref f3))) (l3 : K.lookup f3 = some ⟨oc3, od3, .func (PySem.W.fnOf "endings" "endings" (defArgs s_endings) (defBody s_endings) (defScope s_endings) .none kV3 dc3 pm3 an3 cd3 ct3), sl3⟩) (c3 : PySem.W.codeIn K cd3 "endings" = true) (k3 : PySem.W.keepIn K (.ref f3) = true)
    (a4 : PySem.W.nsIn K mainGlobals "pairing_of" = some (some (.ref f4))) (l4 : K.lookup f4 = some ⟨oc4, od4, .func (PySem.W.fnOf "pairing_of" "pairing_of" (defArgs s_pairing_of) (defBody s_pairing_of) (defScope s_pairing_of) .none kV4 dc4 pm4 an4 cd4 ct4), sl4⟩) (c4 : PySem.W.codeIn K cd4 "pairing_of" = true) (k4 : PySem.W.keepIn K (.ref f4) = true)
    (a5 : PySem.W.nsIn K mainGlobals "steps_at" = some (some (.ref f5))) (l5 : K.lookup f5 = some ⟨oc5, od5, .func (PySem.W.fnOf "steps_at" "steps_at" (defArgs s_steps_at) (defBody s_steps_at) (defScope s_steps_at) .none kV5 dc5 pm5 an5 cd5 ct5), sl5⟩) (c5 : PySem.W.codeIn K cd5 "steps_at" = true) (k5 : PySem.W.keepIn K (.ref f5) = true)
    (a6 : PySem.W.nsIn K mainGlobals "told" = some (some (.ref f6))) (l6 : K.lookup f6 = some ⟨oc6, od6, .func (PySem.W.fnOf "told" "told" (defArgs s_told) (defBody s_told) (defScope s_told) .none kV6 dc6 pm6 an6 cd6 ct6), sl6⟩) (c6 : PySem.W.codeIn K cd6 "told" = true) (k6 : PySem.W.keepIn K (.ref f6) = true)
    (a7 : PySem.W.nsIn K mainGlobals "how_many" = some (some (.ref f7))) (l7 : K.lookup f7 = some ⟨oc7, od7, .func (PySem.W.fnOf "how_many" "how_many" (defArgs s_how_many) (defBody s_how_many) (defScope s_how_many) .none kV7 dc7 pm7 an7 cd7 ct7), sl7⟩) (c7 : PySem.W.codeIn K cd7 "how_many" = true) (k7 : PySem.W.keepIn K (.ref f7) = true)
    (a8 : PySem.W.nsIn K mainGlobals "law" = some (some (.ref f8))) (l8 : K.lookup f8 = some ⟨oc8, od8, .func (PySem.W.fnOf "law" "law" (defArgs s_law) (defBody s_law) (defScope s_law) .none kV8 dc8 pm8 an8 cd8 ct8), sl8⟩) (c8 : PySem.W.codeIn K cd8 "law" = true) (k8 : PySem.W.keepIn K (.ref f8) = true)
    (z_isinstance : PySem.W.nsIn K mainGlobals "isinstance" = some none)
    (z_len : PySem.W.nsIn K mainGlobals "len" = some none)
    (z_range : PySem.W.nsIn K mainGlobals "range" = some none)
    (z_sorted : PySem.W.nsIn K mainGlobals "sorted" = some none)
    (z_str : PySem.W.nsIn K mainGlobals "str" = some none)
    (z_tuple : PySem.W.nsIn K mainGlobals "tuple" = some none)
    (g_MOST : PySem.W.nsIn K mainGlobals "MOST" = some (some (.int 60 t_MOST)))
    (g_PairError : PySem.W.nsIn K mainGlobals "PairError" = some (some (.ref C_PairError)))
    (g_NoWalk : PySem.W.nsIn K mainGlobals "NoWalk" = some (some (.ref C_NoWalk)))
    (g_NoNumber : PySem.W.nsIn K mainGlobals "NoNumber" = some (some (.ref C_NoNumber))) :
    ∃ fd : FuncData, (∀ (s : Shared) (v : Value), BindsTo s fd ⟨[v], []⟩ [("script", v)]) ∧ ∀ base : Heap, K.In base → base.Ns mainGlobals mg → FnOk l.prog w K mg base CX0 3 fa fd ["script"] (sp_law K) := by
  have e := hfa.symm.trans (PySem.W.mg_of X G a8)
  cases e
  have D_law_cell_at : Def K mg "_law_cell_at" ["script", "k"] s_law_cell_at := def_mk X G a0 l0 c0 k0 fun _ _ _ _ _ _ us hl => match us, hl with | [_, _], _ => rfl
  have D_law_of_walk : Def K mg "_law_of_walk" ["walk"] s_law_of_walk := def_mk X G a1 l1 c1 k1 fun _ _ _ _ _ _ us hl => match us, hl with | [_], _ => rfl
  have D_law_all : Def K mg "_law_all" ["points"] s_law_all := def_mk X G a2 l2 c2 k2 fun _ _ _ _ _ _ us hl => match us, hl with | [_], _ => rfl
  have D_endings : Def K mg "endings" ["points"] s_endings := def_mk X G a3 l3 c3 k3 fun _ _ _ _ _ _ us hl => match us, hl with | [_], _ => rfl
  have D_pairing_of : Def K mg "pairing_of" ["walk"] s_pairing_of := def_mk X G a4 l4 c4 k4 fun _ _ _ _ _ _ us hl => match us, hl with | [_], _ => rfl
  have D_steps_at : Def K mg "steps_at" ["height"] s_steps_at := def_mk X G a5 l5 c5 k5 fun _ _ _ _ _ _ us hl => match us, hl with | [_], _ => rfl
  have D_told : Def K mg "told" ["points", "number"] s_told := def_mk X G a6 l6 c6 k6 fun _ _ _ _ _ _ us hl => match us, hl with | [_, _], _ => rfl
  have D_how_many : Def K mg "how_many" ["points"] s_how_many := def_mk X G a7 l7 c7 k7 fun _ _ _ _ _ _ us hl => match us, hl with | [_], _ => rfl
  have D_law : Def K mg "law" ["script"] s_law := def_mk X G a8 l8 c8 k8 fun _ _ _ _ _ _ us hl => match us, hl with | [_], _ => rfl
  have T : Txt K mg ⟨C_PairError, C_NoWalk, C_NoNumber⟩ := ⟨PySem.W.mg_none_of X G z_isinstance, PySem.W.mg_none_of X G z_len, PySem.W.mg_none_of X G z_range, PySem.W.mg_none_of X G z_sorted, PySem.W.mg_none_of X G z_str, PySem.W.mg_none_of X G z_tuple, ⟨_, PySem.W.mg_of X G g_MOST⟩, PySem.W.mg_of X G g_PairError, PySem.W.mg_of X G g_NoWalk, PySem.W.mg_of X G g_NoNumber⟩
  refine ⟨PySem.W.fnOf "law" "law" (defArgs s_law) (defBody s_law) (defScope s_law) .none kV8 dc8 pm8 an8 cd8 ct8, fun s v => .of_eq rfl, fun base _ _ => ?_⟩
  have G_law_cell_at := ok_law_cell_at (P := l.prog) (w := w) (base := base) T D_law_cell_at
  have G_law_of_walk := ok_law_of_walk (P := l.prog) (w := w) (base := base) T D_law_of_walk
  have G_law_all := ok_law_all (P := l.prog) (w := w) (base := base) T D_law_all G_law_of_walk
  have G_endings := ok_endings (P := l.prog) (w := w) (base := base) T D_endings
  have G_pairing_of := ok_pairing_of (P := l.prog) (w := w) (base := base) T D_pairing_of
  have G_steps_at := ok_steps_at (P := l.prog) (w := w) (base := base) T D_steps_at
  have G_told := ok_told (P := l.prog) (w := w) (base := base) T D_told G_endings G_pairing_of G_steps_at
  have G_how_many := ok_how_many (P := l.prog) (w := w) (base := base) T D_how_many G_endings
  exact ok_law T (fun_mk (st := s_law) l8 c8 k8) G_law_cell_at G_law_all G_told G_how_many
end Pg

open PySem PySem.W PyProof.Rows
set_option maxRecDepth 100000 in
set_option maxHeartbeats 0 in
theorem PySem.Challenge.cw_pairlings_k11_whole_one_by_one_holds : PySem.Challenge.rw_pairlings_k11_whole_one_by_one.Holds := by
  w_on; o_law; k_head; (case hw => w_witness2)
  k_fill
  refine L2.walk_of (l := PySem.Challenge.rw_pairlings_k11_whole_one_by_one) (n := 63) (k := 3) (x := "script") (CX := fun _ => L2.CX0) (sp := fun w => Pg.sp_law _) rfl (by decide) rfl ⟨rfl, by decide, by decide⟩ (fun w h Y => PySem.W.kIn_of Y) ?F (fun _ _ a ns hl _ hS => ⟨a, ns, rfl, hS, hl, fun _ => rfl⟩) (fun _ _ _ _ _ h => h)
  case F =>
    intro w mg fa h KX G hmg
    refine' Pg.all_mk KX G hmg ?a0 ?l0 ?c0 ?k0 ?a1 ?l1 ?c1 ?k1 ?a2 ?l2 ?c2 ?k2 ?a3 ?l3 ?c3 ?k3 ?a4 ?l4 ?c4 ?k4 ?a5 ?l5 ?c5 ?k5 ?a6 ?l6 ?c6 ?k6 ?a7 ?l7 ?c7 ?k7 ?a8 ?l8 ?c8 ?k8 ?z_isinstance ?z_len ?z_range ?z_sorted ?z_str ?z_tuple ?g_MOST ?g_PairError ?g_NoWalk ?g_NoNumber
    (case a0 => k_is)
    (case l0 => k_is)
    (case c0 => k_is)
    (case k0 => k_is)
    (case a1 => k_is)
    (case l1 => k_is)
    (case c1 => k_is)
    (case k1 => k_is)
    (case a2 => k_is)
    (case l2 => k_is)
    (case c2 => k_is)
    (case k2 => k_is)
    (case a3 => k_is)
    (case l3 => k_is)
    (case c3 => k_is)
    (case k3 => k_is)
    (case a4 => k_is)
    (case l4 => k_is)
    (case c4 => k_is)
    (case k4 => k_is)
    (case a5 => k_is)
    (case l5 => k_is)
    (case c5 => k_is)
    (case k5 => k_is)
    (case a6 => k_is)
    (case l6 => k_is)
    (case c6 => k_is)
    (case k6 => k_is)
    (case a7 => k_is)
    (case l7 => k_is)
    (case c7 => k_is)
    (case k7 => k_is)
    (case a8 => k_is)
    (case l8 => k_is)
    (case c8 => k_is)
    (case k8 => k_is)
    (case z_isinstance => k_is)
    (case z_len => k_is)
    (case z_range => k_is)
    (case z_sorted => k_is)
    (case z_str => k_is)
    (case z_tuple => k_is)
    (case g_MOST => k_is)
    (case g_PairError => k_is)
    (case g_NoWalk => k_is)
    (case g_NoNumber => k_is)
