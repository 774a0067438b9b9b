import PyProof.Rows.All
import Wide.All
import OpenK.AllK
import Wide.FinOn
import HandS.ForMost
import HandS.Codes
import HandS.More
import HandS.Conv
import HandS.IsInst
import HandS.Wide
import HandS.SortInts
import HandS.RevRange
import HandS.Style
import PyProof.SeqIndex
import KE.DataMinMax
import KE.SortData
import HandS.Rev
import PySem.Challenge.RW_valleytree_k13_water
set_option Elab.async false
set_option linter.all false
set_option maxRecDepth 100000
set_option maxHeartbeats 4000000
/-! ### a layer of small steps over the hand layer -/
namespace VT
open PySem PySem.Spec PyProof.Rows L2
theorem same_new {H : Hp} {p : Addr} (h : H p = none) (o : HO) : Same H (upd H p o) := fun b u q => by
  rw [upd_ne (ne_of_none q h)]
  exact q
theorem same_mut {H H' : Hp} {p : Addr} {o : HO} (e : Same H H') (h : H p = none) : Same H (upd H' p o) := fun b u q => by
  rw [upd_ne (ne_of_none q h)]
  exact e b u q
theorem same_new2 {H H' : Hp} {p : Addr} {o : HO} (e : Same H H') (h : H' p = none) : Same H (upd H' p o) := e.trans (same_new h o)
/-- all but what stands at l is as it was -/
def But (l : Addr) (H H' : Hp) : Prop := ∀ b o, H b = some o → b ≠ l → H' b = some o
theorem But.of {l : Addr} {H H' : Hp} (e : Same H H') : But l H H' := fun b o q _ => e b o q
theorem But.up {l : Addr} {H H' : Hp} {o : HO} (e : But l H H') : But l H (upd H' l o) := fun b u q n => by
  rw [upd_ne n]
  exact e b u q n
theorem But.trans {l : Addr} {H H1 H2 : Hp} (a : But l H H1) (b : But l H1 H2) : But l H H2 := fun c o h n => b c o (a c o h n) n
theorem But.same {l : Addr} {H H' : Hp} (e : But l H H') (h : H l = none) : Same H H' := fun b o q => e b o q (ne_of_none q h)
theorem same_but {l : Addr} {H H1 H2 : Hp} (a : Same H H1) (b : But l H1 H2) (c : H l = none) : Same H H2 := fun p o q => b p o (a p o q) (ne_of_none q c)
theorem But.get {l b : Addr} {o : HO} {H H' : Hp} (e : But l H H') (n : b ≠ l) (h : H b = some o) : H' b = some o := e b o h n
theorem Same.get {b : Addr} {o : HO} {H H' : Hp} (e : Same H H') (h : H b = some o) : H' b = some o := e b o h
theorem up_get {b p : Addr} {o u : HO} {H : Hp} (n : b ≠ p) (h : H b = some o) : upd H p u b = some o := by
  rw [upd_ne n]
  exact h
theorem ne_new {H : Hp} {a b : Addr} {o : HO} (h' : H b = none) (h : H a = some o) : a ≠ b := ne_of_none h h'
theorem ne_new' {H : Hp} {a b : Addr} {o : HO} (h' : H b = none) (h : H a = some o) : b ≠ a := (ne_of_none h h').symm
theorem up_free {H : Hp} {a b : Addr} {o : HO} (n : a ≠ b) (h : H a = none) : upd H b o a = none := by
  rw [upd_ne n]
  exact h
theorem SqL.lst {K : PySem.W.Frag} {H : Hp} {a : Addr} {xs : List V} (h : H a = some (.lst xs)) : SqL K H a xs := .inl (.inl h)
theorem SqT.tup {K : PySem.W.Frag} {H : Hp} {a : Addr} {xs : List V} (h : H a = some (.tup xs)) : SqT K H a xs := .inl (.inl h)
theorem same_seqT {K : PySem.W.Frag} {H H' : Hp} {a : Addr} {xs : List V} (e : Same H H') (h : SqT K H a xs) : SqT K H' a xs := by
  rcases h with (h | ⟨o, h⟩) | h
  · exact .inl (.inl (e _ _ h))
  · exact .inl (.inr ⟨o, e _ _ h⟩)
  · exact .inr h
/-- a readable list is not at a place that is new -/
theorem But.seq {K : PySem.W.Frag} {H H' : Hp} {a l : Addr} {xs : List V} (e : But l H H') (n : a ≠ l) (h : SqL K H a xs) : SqL K H' a xs := by
  rcases h with (h | ⟨o, h⟩) | h
  · exact .inl (.inl (e _ _ h n))
  · exact .inl (.inr ⟨o, e _ _ h n⟩)
  · exact .inr h
theorem sz {n : Nat} (h : n ≤ 1000000) : n ≤ sizeLine := Nat.le_trans h (by decide)
theorem szl {n : Nat} (h : n ≤ 1000000) : n < sizeLine := Nat.lt_of_le_of_lt h (by decide)

/-! ### names for the rules' readings -/
def rLen (K : PySem.W.Frag) : List V → Hp → VK → Prop := fun xs H Q => ∃ p ys, xs = [.ref p] ∧ (SqL K H p ys ∨ SqT K H p ys) ∧ Q (.int ys.length) H
def rListOf (K : PySem.W.Frag) : List V → Hp → VK → Prop := fun xs H Q => ∃ p ys, xs = [.ref p] ∧ (SqL K H p ys ∨ SqT K H p ys) ∧ ∀ l, H l = none → Q (.ref l) (upd H l (.lst ys))
def rMin2 : List V → Hp → VK → Prop := fun xs H Q => ∃ i j, xs = [.int i, .int j] ∧ Q (.int (if j < i then j else i)) H
def rMax2 : List V → Hp → VK → Prop := fun xs H Q => ∃ i j, xs = [.int i, .int j] ∧ Q (.int (if j > i then j else i)) H
def rAbs : List V → Hp → VK → Prop := fun xs H Q => ∃ i, xs = [.int i] ∧ Q (.int (if i < 0 then -i else i)) H
def rIsN : R2 := fun x y H Q => y = .non ∧ Q (.bl (decide (x = .non))) H
def rNotN : R2 := fun x y H Q => y = .non ∧ Q (.bl (!decide (x = .non))) H
def rIns : V → List V → Hp → VK → Prop := fun x vs H Q => ∃ (l : Addr) (xs : List V) (i : Int) (y : V), x = .ref l ∧ vs = [.int i, y] ∧ H l = some (.lst xs) ∧ xs.length < sizeLine ∧ 0 ≤ i ∧ i < 2 ^ 63 ∧ Q .non (upd H l (.lst (xs.take i.toNat ++ [y] ++ xs.drop i.toNat)))
section
variable {X : Cx}
theorem c_len : CallR X (.builtin "len") (rLen X.K) := call_len_seq
theorem c_listOf : CallR X (.type "list") (rListOf X.K) := call_list_of
theorem c_min2 (hc : X.calm = true) : CallR X (.builtin "min") rMin2 := call_min2 hc
theorem c_max2 (hc : X.calm = true) : CallR X (.builtin "max") rMax2 := call_max2 hc
theorem c_abs : CallR X (.builtin "abs") rAbs := call_abs
theorem o_isN : OpR X (compareOp .Is) rIsN := op_isN
theorem o_notN : OpR X (compareOp .IsNot) rNotN := op_notN
/-- the rules at a written part that is told (within a comprehension) -/
theorem ixL {K : PySem.W.Frag} (h : X.K = K) : IxR X (rIxL K) := by
  subst h
  exact ix_list
theorem ixT {K : PySem.W.Frag} (h : X.K = K) : IxR X (rIxT K) := by
  subst h
  exact ix_tup
theorem inS {K : PySem.W.Frag} (h : X.K = K) : OpR X (compareOp .In) (rIn K false) := by
  subst h
  exact op_in_seq
theorem eqD {K : PySem.W.Frag} (h : X.K = K) (hu : X.A.units + 64 < cLine) : OpR X (compareOp .Eq) (rEqD K) := by
  subst h
  exact op_eqD hu
/-- xs.index(y, i), xs a list of numbers, y there at i or behind: the first such place -/
def rIndex3 (K : PySem.W.Frag) : V → List V → Hp → VK → Prop := fun x xs H Q => ∃ (a : Addr) (ns : List Int) (y i : Int) (j : Nat), x = .ref a ∧ xs = [.int y, .int i] ∧ SqL K H a (ns.map V.int) ∧ 0 ≤ i ∧ i.toNat ≤ j ∧ ns[j]? = some y ∧ (∀ m : Nat, i.toNat ≤ m → m < j → ns[m]? ≠ some y) ∧ Q (.int (j : Nat)) H
theorem mt_index3 : MtR X "list.index" (rIndex3 X.K) := by
  intro pins s σ H x xs v us Q I rx rxs h
  obtain ⟨a, ns, y, i, j, rfl, rfl, hs, i0, hij, hj, hno, q⟩ := h
  cases rx
  obtain ⟨u1, u2, rfl, r1, r2⟩ := vals2 rxs
  obtain ⟨t1, rfl⟩ := r1
  obtain ⟨t2, rfl⟩ := r2
  obtain ⟨its, rv, ⟨⟨cls, dd, data, sl⟩, n, ho, hc, hdn, hd⟩, hlen⟩ := I.list hs
  simp only at hc hd
  subst hc hd
  have hvl := rv.length
  rw [List.length_map] at hvl
  have hjl : j < ns.length := (List.getElem?_eq_some_iff.mp hj).1
  have hsl := sizeLine_eq
  have hlen' : (ns.map V.int).length ≤ sizeLine := by
    first
      | exact hlen
      | (rw [List.length_map]; rw [hvl]; exact hlen)
  rw [List.length_map, hsl] at hlen'
  have hsf : SeqAt.searchFrom i its.toArray.size = i.toNat := SeqAt.searchFrom_nonneg i0 _
  refine call_meets PySem.F.slot_list_index ⟨_, ho, rfl⟩ PySem.F.entry_list_index (PySem.F.args_list_index_3 _ _ _)
    (SeqAt.list_index3_found a its.toArray n dd sl (.int y t1) (fun m => decide (ns[m]? = some y)) i t2 j (by rw [List.size_toArray]; omega) (by rw [hsf]; exact hij) (by omega) (decide_eq_true hj) ?_) ⟨ho, fun m hm => ?_, ?_⟩
  · intro m hm h1 h2
    rw [hsf] at h1
    exact decide_eq_false (hno m h1 h2)
  · have hml : m < its.length := by simpa using hm
    have hmn : m < ns.length := by omega
    have hm' : (ns.map V.int)[m]? = some (V.int ns[m]) := by rw [List.getElem?_map, List.getElem?_eq_getElem hmn] <;> rfl
    obtain ⟨u2, hu2, ru2⟩ := rv.get hm'
    obtain ⟨hm1, hme⟩ := List.getElem?_eq_some_iff.mp hu2
    obtain ⟨tm, rfl⟩ := ru2
    have e1 : its.toArray[m] = .int ns[m] tm := by simpa using hme
    have hq := mem_eqAt (A := X.A.in1) (s := s) (x := V.int y) (v := .int y t1) ⟨t1, rfl⟩ rfl rv (by rw [List.all_map]; exact List.all_eq_true.mpr fun _ _ => rfl) its.toArray[m] (by simp)
    have e2 : eqU (V.int y) its.toArray[m] = decide (ns[m]? = some y) := by
      rw [e1, List.getElem?_eq_getElem hmn]
      show (ns[m] == y) = _
      by_cases h : ns[m] = y
      · rw [h, beq_self_eq_true, decide_eq_true rfl]
      · rw [beq_eq_false_iff_ne.mpr h, decide_eq_false (fun z => h (Option.some.inj z))]
    rw [e2] at hq
    exact hq
  · exact ⟨.int (j : Nat), H, I.tok _, ⟨_, rfl⟩, q⟩
/-- xs.count(y), flat items -/
def rCountV (K : PySem.W.Frag) : V → List V → Hp → VK → Prop := fun x xs H Q => ∃ (a : Addr) (ys : List V) (y : V), x = .ref a ∧ xs = [y] ∧ SqL K H a ys ∧ flatV y = true ∧ ys.all flatV = true ∧ Q (.int (ys.countP (fun z => eqV z y) : Nat)) H
theorem countP_rel {y : V} : ∀ {ys : List V} {its : List Value}, Vals ys its → ys.all flatV = true → its.countP (eqU y) = ys.countP (fun z => eqV z y)
  | _, _, .nil, _ => rfl
  | x :: ys, u :: us, .cons r t, f => by
    rw [List.all_cons, Bool.and_eq_true] at f
    rw [List.countP_cons, List.countP_cons, countP_rel t f.2, eqU_of r f.1]
theorem mt_countV : MtR X "list.count" (rCountV X.K) := by
  intro pins s σ H x xs v us Q I rx rxs h
  obtain ⟨a, ys, y, rfl, rfl, hs, fy, fys, q⟩ := h
  cases rx
  obtain ⟨u, rfl, ru⟩ := rxs.one
  obtain ⟨its, rv, ⟨⟨cls, dd, data, sl⟩, n, ho, hc, hdn, hd⟩, hlen⟩ := I.list hs
  simp only at hc hd
  subst hc hd
  refine call_meets PySem.F.slot_list_count ⟨_, ho, rfl⟩ PySem.F.entry_list_count (PySem.F.args_list_count_2 _ _)
    (SeqAt.list_countAt a its.toArray n dd sl u (eqU y)) ⟨ho, fun z hz => mem_eqAt ru fy rv fys z (by simpa using hz), ?_⟩
  have ec : its.toArray.toList.countP (eqU y) = ys.countP (fun z => eqV z y) := countP_rel rv fys
  refine ⟨.int (ys.countP (fun z => eqV z y) : Nat), H, I.tok _, ⟨s.toks, ?_⟩, q⟩
  show Value.int ((its.toArray.toList.countP (eqU y) : Nat) : Int) s.toks = Value.int ((ys.countP (fun z => eqV z y) : Nat) : Int) s.toks
  rw [ec]
/-- a op1 b op2 c op3 d -/
def tChain3 (r r' r2 : R2) (ta tb tc td : TE) : TE := fun σ H Q => ta σ H fun x H1 => tb σ H1 fun y H2 => r x y H2 fun z H3 => ∃ k, z = .bl k ∧
  (if k = true then tc σ H3 fun w' H4 => r' y w' H4 fun z' H5 => ∃ k', z' = .bl k' ∧ (if k' = true then td σ H5 fun w2 H6 => r2 w' w2 H6 Q else Q (.bl false) H5) else Q (.bl false) H3)
theorem pt_chain3 {op op' op2 : CmpOp} {r r' r2 : R2} {a b c d : Expr} {ta tb tc td : TE} {pos : Pos} (ho : OpR X (compareOp op) r) (ho' : OpR X (compareOp op') r') (ho2 : OpR X (compareOp op2) r2) (ha : PE X a ta) (hb : PE X b tb) (hc : PE X c tc) (hd : PE X d td)
    (hm : lastMarks [op, op', op2] [b, c, d] = false := by with_unfolding_all rfl) : PT X (.Compare a [op, op', op2] [b, c, d] pos) (tTest (tChain3 r r' r2 ta tb tc td)) := by
  refine ⟨fun pins s σ H Q I h => ?_⟩
  refine isTrue_chain (thn (ha.run pins s σ H _ I h) fun v s1 ⟨x, H1, I1, r1, q1⟩ => test_link (thn (hb.run pins s1 σ H1 _ I1 q1) fun u s2 ⟨y, H2, I2, rr2, q2⟩ =>
    thn (ho pins s2 σ H2 x y v u _ I2 r1 rr2 q2) fun e s3 ⟨z, H3, I3, r3, k, ez, q3⟩ => ?_)) hm
  subst ez
  cases r3
  refine wpAny_truthy_bool ?_
  cases k with
  | false =>
    obtain ⟨k', e', q'⟩ := q3
    cases e'
    exact ite_ff ⟨H3, I3, q'⟩
  | true =>
    refine ite_tt (test_link (thn (hc.run pins s3 σ H3 _ I3 q3) fun w' s4 ⟨z', H4, I4, r4, q4⟩ => thn (ho' pins s4 σ H4 y z' u w' _ I4 rr2 r4 q4) fun d' s5 ⟨z2, H5, I5, r5, k2, e2, q5⟩ => ?_))
    subst e2
    cases r5
    refine wpAny_truthy_bool ?_
    cases k2 with
    | false =>
      obtain ⟨k', e', q'⟩ := q5
      cases e'
      exact ite_ff ⟨H5, I5, q'⟩
    | true =>
      refine ite_tt (test_last (thn (hd.run pins s5 σ H5 _ I5 q5) fun w2 s6 ⟨z3, H6, I6, r6, q6⟩ => thn (ho2 pins s6 σ H6 z' z3 w' w2 _ I6 r4 r6 q6) fun d2 s7 ⟨z4, H7, I7, r7, k3, e3, q7⟩ => ?_))
      subst e3
      cases r7
      exact wpAny_truthy_bool ⟨H7, I7, q7⟩
theorem m_insert : MtR X "list.insert" rIns := mt_insert
end
section
variable {σ : L2.St} {H : Hp} {Q : VK} {D : Ends} {ta tb tc te : TE} {t u : TS} {tt tu : TT} {K : PySem.W.Frag}
variable {nx bk ct : L2.St → Hp → Prop} {rt : VK}
theorem r_seq (h : t ⟨u ⟨nx, rt, bk, ct⟩, rt, bk, ct⟩ σ H) : tSeq t u ⟨nx, rt, bk, ct⟩ σ H := h
theorem r_cut (M : L2.St → Hp → Prop) (h : t ⟨M, rt, bk, ct⟩ σ H) (k : ∀ σ' H', M σ' H' → u ⟨nx, rt, bk, ct⟩ σ' H') : C8.tCut t u ⟨nx, rt, bk, ct⟩ σ H := ⟨M, h, k⟩
theorem r_next (h : nx σ H) : tNext ⟨nx, rt, bk, ct⟩ σ H := h
theorem r_asg {g : TG} (h : te σ H fun x H1 => g x σ H1 nx) : tAsg te g ⟨nx, rt, bk, ct⟩ σ H := h
theorem r_name {i : Nat} {v : V} {N : L2.St → Hp → Prop} (h : N (σ.set i (some v)) H) : gName i v σ H N := h
theorem r_sub {to ti : TE} {g : V → V → V → Hp → (Hp → Prop) → Prop} {v : V} {N : L2.St → Hp → Prop} (h : to σ H fun o H1 => ti σ H1 fun i H2 => g o i v H2 fun H3 => N σ H3) : gSub to ti g v σ H N := h
theorem r_drop (h : te σ H fun _ H1 => nx σ H1) : tDrop te ⟨nx, rt, bk, ct⟩ σ H := h
theorem r_ret (h : te σ H rt) : tRet te ⟨nx, rt, bk, ct⟩ σ H := h
theorem r_retN (h : rt .non H) : tRetN ⟨nx, rt, bk, ct⟩ σ H := h
theorem r_if {tc : TT} (h : tc σ H fun b H1 => if b = true then t ⟨nx, rt, bk, ct⟩ σ H1 else u ⟨nx, rt, bk, ct⟩ σ H1) : tIfS tc t u ⟨nx, rt, bk, ct⟩ σ H := h
theorem r_var {i : Nat} {v : V} (h : σ[i]? = some (some v)) (q : Q v H) : tVar i σ H Q := ⟨v, h, q⟩
theorem r_c {v : V} (q : Q v H) : tC v σ H Q := q
theorem r_op {r : R2} (h : ta σ H fun x H1 => tb σ H1 fun y H2 => r x y H2 Q) : tOp r ta tb σ H Q := h
theorem r_un {r : V → Hp → VK → Prop} (h : ta σ H fun x H1 => r x H1 Q) : tUn r ta σ H Q := h
theorem r_chain {r r' : R2} (h : ta σ H fun x H1 => tb σ H1 fun y H2 => r x y H2 fun z H3 => ∃ k, z = .bl k ∧ (if k = true then tc σ H3 fun w' H4 => r' y w' H4 Q else Q (.bl false) H3)) : tChain r r' ta tb tc σ H Q := h
theorem r_chain3 {r r' r2 : R2} {td : TE} (h : ta σ H fun x H1 => tb σ H1 fun y H2 => r x y H2 fun z H3 => ∃ k, z = .bl k ∧
  (if k = true then tc σ H3 fun w' H4 => r' y w' H4 fun z' H5 => ∃ k', z' = .bl k' ∧ (if k' = true then td σ H5 fun w2 H6 => r2 w' w2 H6 Q else Q (.bl false) H5) else Q (.bl false) H3)) : tChain3 r r' r2 ta tb tc td σ H Q := h
theorem r_sFld {f : Str} (h : te σ H fun y H1 => ta σ H1 fun x H2 => ∃ a C dx fs, x = .ref a ∧ H2 a = some (.ins C dx fs) ∧ Cls K C ∧ NoAttr K C f ∧ fs.length < 1000 ∧ nx σ (upd H2 a (.ins C dx (putF f y fs)))) : sFld K ta te f ⟨nx, rt, bk, ct⟩ σ H := h
theorem r_test {N : Bool → Hp → Prop} (h : te σ H fun x H' => ∃ k, x = .bl k ∧ N k H') : tTest te σ H N := h
theorem r_B {N : Bool → Hp → Prop} (h : te σ H fun x H' => ∃ k, x = .bl k ∧ N k H') : tB te σ H N := h
theorem r_bl {b : Bool} {N : Bool → Prop} (h : N b) : ∃ k, V.bl b = V.bl k ∧ N k := ⟨b, rfl, h⟩
theorem r_not {N : Bool → Hp → Prop} (h : tt σ H fun c H1 => N (!c) H1) : tNot tt σ H N := h
theorem r_and {N : Bool → Hp → Prop} (h : tt σ H fun c H1 => if c = true then tu σ H1 N else N false H1) : tAnd tt tu σ H N := h
theorem r_or {N : Bool → Hp → Prop} (h : tt σ H fun c H1 => if c = true then N true H1 else tu σ H1 N) : tOr tt tu σ H N := h
theorem r_andV (h : ta σ H fun x H1 => ∃ c, x = .bl c ∧ if c = true then tb σ H1 Q else Q (.bl false) H1) : tAndV ta tb σ H Q := h
theorem r_orV (h : ta σ H fun x H1 => ∃ c, x = .bl c ∧ if c = true then Q (.bl true) H1 else tb σ H1 Q) : tOrV ta tb σ H Q := h
theorem r_notV (h : ta σ H fun x H1 => ∃ c, x = .bl c ∧ Q (.bl (!c)) H1) : tNotV ta σ H Q := h
theorem r_ifE {c : TT} (h : c σ H fun b H1 => if b = true then ta σ H1 Q else tb σ H1 Q) : tIf c ta tb σ H Q := h
theorem r_cons {tr : TA} {N : List V → Hp → Prop} (h : ta σ H fun x H1 => tr σ H1 fun xs H2 => N (x :: xs) H2) : tCons ta tr σ H N := h
theorem r_nil {N : List V → Hp → Prop} (h : N [] H) : tNil σ H N := h
theorem r_lst {tr : TA} (h : tr σ H fun xs H1 => xs.length ≤ sizeLine ∧ ∀ p, H1 p = none → Q (.ref p) (upd H1 p (.lst xs))) : tLst tr σ H Q := h
theorem r_tup {tr : TA} (h : tr σ H fun xs H1 => xs.length ≤ sizeLine ∧ ∀ p, H1 p = none → Q (.ref p) (upd H1 p (.tup xs))) : tTup tr σ H Q := h
theorem r_CB {tr : TA} {r : List V → Hp → VK → Prop} (h : tr σ H fun vs H1 => r vs H1 Q) : tCB r tr σ H Q := h
theorem r_call {tr : TA} {sp : Sp} {dvs : List V} {E : XK} (h : tr σ H fun vs H1 => sp (vs ++ dvs) H1 Q E) : tCall sp dvs E tr σ H Q := h
theorem r_sl {r : V → Option Int → Option Int → Hp → VK → Prop} {tl th : TO} (h : te σ H fun x H1 => tl σ H1 fun lo H2 => th σ H2 fun hi H3 => r x lo hi H3 Q) : tSl r te tl th σ H Q := h
theorem r_part {N : Option Int → Hp → Prop} (h : te σ H fun x H1 => ∃ i, x = .int i ∧ N (some i) H1) : tPart te σ H N := h
theorem r_int {i : Int} {N : Int → Prop} (h : N i) : ∃ k, V.int i = V.int k ∧ N k := ⟨i, rfl, h⟩
theorem r_noPart {N : Option Int → Hp → Prop} (h : N none H) : tNoPart σ H N := h
theorem r_bm {T : String} {r : V → List V → Hp → VK → Prop} {tr : TA} (h : te σ H fun x H1 => tyV K T x H1 ∧ tr σ H1 fun xs H2 => r x xs H2 Q) : tBM K T r te tr σ H Q := h
theorem r_bm0 {T : String} {r : V → List V → Hp → VK → Prop} (h : te σ H fun x H1 => tyV K T x H1 ∧ r x [] H1 Q) : tBM0 K T r te σ H Q := h
theorem r_fld {f : Str} (h : ta σ H fun x H1 => ∃ a C dx fs v, x = .ref a ∧ H1 a = some (.ins C dx fs) ∧ Cls K C ∧ NoAttr K C f ∧ fs.lookup f = some v ∧ Q v H1) : tFld K ta f σ H Q := h
theorem r_I0 {g : Int → Int → V} {i j : Int} (h : Q (g i j) H) : rI0 g (.int i) (.int j) H Q := ⟨i, j, rfl, rfl, h⟩
theorem r_I {C : Int → Int → Prop} {g : Int → Int → V} {i j : Int} (hc : C i j) (h : Q (g i j) H) : rI C g (.int i) (.int j) H Q := ⟨i, j, rfl, rfl, hc, h⟩
theorem r_U {g : Int → V} {i : Int} (h : Q (g i) H) : rU g (.int i) H Q := ⟨i, rfl, h⟩
/-- a Row: its attributes, where it stands -/
def rowF (l : Addr) : List (Str × V) := [("kept", .ref l)]
def RowOb (C : Addr) (H : Hp) (p l : Addr) : Prop := ∃ dx, H p = some (.ins C dx (rowF l))
theorem r_meth {C : Addr} {m : Str} {sp : Sp} {dvs : List V} {E : XK} {tr : TA} (h : ta σ H fun x H1 => ∃ a dx fs, x = .ref a ∧ H1 a = some (.ins C dx fs) ∧ fs.lookup m = none ∧ tr σ H1 fun vs H2 => sp (x :: (vs ++ dvs)) H2 Q E) : tMeth C m sp dvs E ta tr σ H Q := h
theorem r_make {C : Addr} {sp : Sp} {dvs : List V} {E : XK} {tr : TA} (h : tr σ H fun vs H1 => ∀ x dx, H1 x = none → H1 dx = none → dx ≠ x → sp (.ref x :: (vs ++ dvs)) (upd (upd H1 dx (.own x)) x (.ins C dx [])) (fun v H2 => v = .non ∧ Q (.ref x) H2) E) : tMake C sp dvs E tr σ H Q := h
theorem rowF_kept (l : Addr) : (rowF l).lookup ("kept" : Str) = some (.ref l) := by
  unfold rowF
  rw [List.lookup_cons]
  simp
theorem rowF_no (l : Addr) {m : Str} (h : ¬ m = "kept") : (rowF l).lookup m = none := by
  unfold rowF
  rw [List.lookup_cons]
  have e : (m == ("kept" : Str)) = false := by simpa using h
  rw [e]
  rfl
theorem r_fldR {p l C dx : Addr} (h : H p = some (.ins C dx (rowF l))) (c : Cls K C) (n : NoAttr K C "kept") {N : V → Prop} (q : N (.ref l)) : ∃ a C dx fs v, V.ref p = .ref a ∧ H a = some (.ins C dx fs) ∧ Cls K C ∧ NoAttr K C "kept" ∧ fs.lookup ("kept" : Str) = some v ∧ N v := ⟨p, C, dx, rowF l, _, rfl, h, c, n, rowF_kept l, q⟩
theorem r_methR {p l C dx : Addr} {m : Str} {N : Prop} (h : H p = some (.ins C dx (rowF l))) (hm : ¬ m = "kept") (q : N) : ∃ a dx fs, V.ref p = .ref a ∧ H a = some (.ins C dx fs) ∧ fs.lookup m = none ∧ N := ⟨p, dx, rowF l, rfl, h, rowF_no l hm, q⟩
theorem r_new {n : Nat} {N : Addr → Prop} (z : n ≤ 1000000) (q : ∀ p, H p = none → N p) : n ≤ sizeLine ∧ ∀ p, H p = none → N p := ⟨sz z, q⟩
theorem dec_int {i j : Int} : decide (V.int i = V.int j) = decide (i = j) := by
  by_cases h : i = j
  · rw [h, decide_eq_true rfl, decide_eq_true rfl]
  · rw [decide_eq_false h, decide_eq_false (fun e => h (V.int.inj e))]
theorem dec_bl {i j : Bool} : decide (V.bl i = V.bl j) = decide (i = j) := by
  by_cases h : i = j
  · rw [h, decide_eq_true rfl, decide_eq_true rfl]
  · rw [decide_eq_false h, decide_eq_false (fun e => h (V.bl.inj e))]
theorem r_eqI {i j : Int} (h : Q (.bl (decide (i = j))) H) : rEq (.int i) (.int j) H Q := ⟨rfl, by rw [dec_int]; exact h⟩
theorem r_neI {i j : Int} (h : Q (.bl (!decide (i = j))) H) : rNe (.int i) (.int j) H Q := ⟨rfl, by rw [dec_int]; exact h⟩
theorem r_eqB {i j : Bool} (h : Q (.bl (decide (i = j))) H) : rEq (.bl i) (.bl j) H Q := ⟨rfl, by rw [dec_bl]; exact h⟩
theorem r_neB {i j : Bool} (h : Q (.bl (!decide (i = j))) H) : rNe (.bl i) (.bl j) H Q := ⟨rfl, by rw [dec_bl]; exact h⟩
theorem r_isN {x : V} (h : Q (.bl (decide (x = .non))) H) : rIsN x .non H Q := ⟨rfl, h⟩
theorem r_notN {x : V} (h : Q (.bl (!decide (x = .non))) H) : rNotN x .non H Q := ⟨rfl, h⟩
/-- branches -/
theorem br {b : Bool} {A B : Prop} (h1 : b = true → A) (h2 : b = false → B) : if b = true then A else B := by
  cases b with
  | true => exact iteT (h1 rfl)
  | false => exact iteF (h2 rfl)
theorem brD {p : Prop} [Decidable p] {A B : Prop} (h1 : p → A) (h2 : ¬ p → B) : if decide p = true then A else B := by
  by_cases h : p
  · rw [if_pos (decide_eq_true h)]
    exact h1 h
  · rw [if_neg (by rw [decide_eq_false h]; exact Bool.false_ne_true)]
    exact h2 h
theorem brN {p : Prop} [Decidable p] {A B : Prop} (h1 : ¬ p → A) (h2 : p → B) : if (!decide p) = true then A else B := by
  by_cases h : p
  · rw [if_neg (by rw [decide_eq_true h]; exact Bool.false_ne_true)]
    exact h2 h
  · rw [if_pos (by rw [decide_eq_false h]; rfl)]
    exact h1 h
theorem brT {p : Prop} [Decidable p] {A B : Prop} (h : p) (h1 : A) : if decide p = true then A else B := brD (fun _ => h1) (fun n => absurd h n)
theorem brF {p : Prop} [Decidable p] {A B : Prop} (h : ¬ p) (h1 : B) : if decide p = true then A else B := brD (fun n => absurd n h) (fun _ => h1)
theorem brNT {p : Prop} [Decidable p] {A B : Prop} (h : ¬ p) (h1 : A) : if (!decide p) = true then A else B := brN (fun _ => h1) (fun n => absurd n h)
theorem brNF {p : Prop} [Decidable p] {A B : Prop} (h : p) (h1 : B) : if (!decide p) = true then A else B := brN (fun n => absurd h n) (fun _ => h1)
/-- and, or of two tests that leave the heap: one answer -/
theorem r_andD {p q : Bool} {N : Bool → Hp → Prop} (h1 : ∀ Z : Bool → Hp → Prop, Z p H → tt σ H Z) (h2 : ∀ Z : Bool → Hp → Prop, Z q H → tu σ H Z) (h : N (p && q) H) : tAnd tt tu σ H N := by
  refine h1 _ ?_
  cases p with
  | true => exact iteT (h2 _ h)
  | false => exact iteF h
theorem r_orD {p q : Bool} {N : Bool → Hp → Prop} (h1 : ∀ Z : Bool → Hp → Prop, Z p H → tt σ H Z) (h2 : ∀ Z : Bool → Hp → Prop, Z q H → tu σ H Z) (h : N (p || q) H) : tOr tt tu σ H N := by
  refine h1 _ ?_
  cases p with
  | true => exact iteT h
  | false => exact iteF (h2 _ h)
theorem brA {p q : Prop} [Decidable p] [Decidable q] {A B : Prop} (h1 : p → q → A) (h2 : ¬ (p ∧ q) → B) : if (decide p && decide q) = true then A else B := by
  by_cases hp : p
  · by_cases hq : q
    · rw [decide_eq_true hp, decide_eq_true hq]
      exact iteT (h1 hp hq)
    · rw [decide_eq_false hq, Bool.and_false]
      exact iteF (h2 fun z => hq z.2)
  · rw [decide_eq_false hp, Bool.false_and]
    exact iteF (h2 fun z => hp z.1)
theorem brO {p q : Prop} [Decidable p] [Decidable q] {A B : Prop} (h1 : p ∨ q → A) (h2 : ¬ p → ¬ q → B) : if (decide p || decide q) = true then A else B := by
  by_cases hp : p
  · rw [decide_eq_true hp, Bool.true_or]
    exact iteT (h1 (.inl hp))
  · by_cases hq : q
    · rw [decide_eq_true hq, Bool.or_true]
      exact iteT (h1 (.inr hq))
    · rw [decide_eq_false hp, decide_eq_false hq]
      exact iteF (h2 hp hq)
theorem r_len {p : Addr} {ys : List V} (h : SqL K H p ys) (q : Q (.int (ys.length : Int)) H) : rLen K [.ref p] H Q := ⟨p, ys, rfl, .inl h, q⟩
theorem r_lenI {p : Addr} {ns : List Int} (h : SqL K H p (ns.map V.int)) (q : Q (.int (ns.length : Int)) H) : rLen K [.ref p] H Q := ⟨p, _, rfl, .inl h, by rw [List.length_map]; exact q⟩
theorem r_lenT {p : Addr} {ys : List V} (h : SqT K H p ys) (q : Q (.int (ys.length : Int)) H) : rLen K [.ref p] H Q := ⟨p, ys, rfl, .inr h, q⟩
theorem r_listOf {p : Addr} {ys : List V} (h : SqL K H p ys) (q : ∀ l, H l = none → Q (.ref l) (upd H l (.lst ys))) : rListOf K [.ref p] H Q := ⟨p, ys, rfl, .inl h, q⟩
theorem r_index3 {a : Addr} {ns : List Int} {y i : Int} {j : Nat} (h : SqL K H a (ns.map V.int)) (h0 : 0 ≤ i) (h1 : i.toNat ≤ j) (hj : ns[j]? = some y) (hn : ∀ m : Nat, i.toNat ≤ m → m < j → ns[m]? ≠ some y) (q : Q (.int (j : Nat)) H) : rIndex3 K (.ref a) [.int y, .int i] H Q := ⟨a, ns, y, i, j, rfl, rfl, h, h0, h1, hj, hn, q⟩
theorem r_min {a : Addr} {ns : List Int} (h : SqL K H a (ns.map V.int)) (hn : 0 < ns.length) (q : ∀ m, m ∈ ns → (∀ x, x ∈ ns → m ≤ x) → Q (.int m) H) : rMin K [.ref a] H Q := ⟨a, ns, rfl, h, hn, q⟩
theorem r_max {a : Addr} {ns : List Int} (h : SqL K H a (ns.map V.int)) (hn : 0 < ns.length) (q : ∀ m, m ∈ ns → (∀ x, x ∈ ns → x ≤ m) → Q (.int m) H) : rMax K [.ref a] H Q := ⟨a, ns, rfl, h, hn, q⟩
theorem r_sum {a : Addr} {ns : List Int} (h : SqL K H a (ns.map V.int)) (q : Q (.int ns.sum) H) : rSum K [.ref a] H Q := ⟨a, ns, rfl, h, q⟩
theorem r_min2 {i j : Int} (q : Q (.int (if j < i then j else i)) H) : rMin2 [.int i, .int j] H Q := ⟨i, j, rfl, q⟩
theorem r_max2 {i j : Int} (q : Q (.int (if j > i then j else i)) H) : rMax2 [.int i, .int j] H Q := ⟨i, j, rfl, q⟩
theorem r_abs {i : Int} (q : Q (.int (if i < 0 then -i else i)) H) : rAbs [.int i] H Q := ⟨i, rfl, q⟩
theorem r_ixL {p : Addr} {xs : List V} {i : Int} {v : V} (h : SqL K H p xs) (ha : atI xs i = some v) (q : Q v H) : rIxL K (.ref p) (.int i) H Q := ⟨p, xs, i, v, rfl, rfl, h, ha, q⟩
theorem r_ixT {p : Addr} {xs : List V} {i : Int} {v : V} (h : SqT K H p xs) (ha : atI xs i = some v) (q : Q v H) : rIxT K (.ref p) (.int i) H Q := ⟨p, xs, i, v, rfl, rfl, h, ha, q⟩
theorem r_slL {p : Addr} {xs : List V} {lo hi : Option Int} (h : SqL K H p xs) (q : ∀ l, H l = none → Q (.ref l) (upd H l (.lst (cutV xs lo hi)))) : rSlL K (.ref p) lo hi H Q := ⟨p, xs, rfl, h, q⟩
theorem r_cat {l b : Addr} {xs zs : List V} (h : H l = some (.lst xs)) (h' : H b = some (.lst zs)) (z : xs.length + zs.length ≤ 1000000) (q : ∀ p, H p = none → Q (.ref p) (upd H p (.lst (xs ++ zs)))) : rCat (.ref l) (.ref b) H Q := ⟨l, b, xs, zs, rfl, rfl, h, h', sz z, q⟩
theorem r_app {l : Addr} {xs : List V} {v : V} (h : H l = some (.lst xs)) (z : xs.length ≤ 1000000) (q : Q .non (upd H l (.lst (xs ++ [v])))) : rAppend (.ref l) [v] H Q := ⟨l, xs, v, rfl, rfl, h, szl z, q⟩
theorem r_tyL {p : Addr} {xs : List V} {N : Prop} (h : SqL K H p xs) (q : N) : tyV K "list" (.ref p) H ∧ N := ⟨.inl ⟨rfl, xs, h⟩, q⟩
theorem r_ins {l : Addr} {xs : List V} {i : Int} {y : V} (h : H l = some (.lst xs)) (z : xs.length ≤ 1000000) (i0 : 0 ≤ i) (i1 : i ≤ 1000000) (q : Q .non (upd H l (.lst (xs.take i.toNat ++ [y] ++ xs.drop i.toNat)))) : rIns (.ref l) [.int i, y] H Q := ⟨l, xs, i, y, rfl, rfl, h, szl z, i0, Int.lt_of_le_of_lt i1 (by decide), q⟩
theorem map_erase (ns : List Int) (k : Nat) : (ns.map V.int).eraseIdx k = (ns.eraseIdx k).map V.int := by
  induction ns generalizing k with
  | nil => rfl
  | cons a r ih =>
    cases k with
    | zero => rfl
    | succ k =>
      show V.int a :: (r.map V.int).eraseIdx k = V.int a :: (r.eraseIdx k).map V.int
      rw [ih]
theorem seq_ix {n : Nat} {i : Int} (h0 : 0 ≤ i) (h1 : i < (n : Int)) : seqIndex? i n = some i.toNat := by
  have e : ixN n i = some i.toNat := by
    unfold ixN
    rw [if_pos h0, if_pos h1]
  exact (ixN_seq e).1
theorem snoc_int (ns : List Int) (x : Int) : ns.map V.int ++ [V.int x] = (ns ++ [x]).map V.int := by
  rw [List.map_append]
  rfl
theorem r_popAt {l : Addr} {ns : List Int} {i z : Int} (h : H l = some (.lst (ns.map V.int))) (h0 : 0 ≤ i) (h1 : i < 1000000) (hz : ns[i.toNat]? = some z) (q : Q (.int z) (upd H l (.lst ((ns.eraseIdx i.toNat).map V.int)))) : rPopAt (.ref l) [.int i] H Q := by
  have hi : i.toNat < ns.length := (List.getElem?_eq_some_iff.mp hz).1
  refine ⟨l, ns.map V.int, i, i.toNat, .int z, rfl, rfl, h, by omega, by omega, ?_, ?_, ?_⟩
  · rw [List.length_map]
    exact seq_ix h0 (by omega)
  · rw [List.getElem?_map, hz] <;> rfl
  · rw [map_erase]
    exact q
theorem sIx_int {n d : Nat} {i : Int} (h0 : 0 ≤ i) (h1 : i ≤ (n : Int)) : HT.sIx n d (some i) = i.toNat := by
  have e : i = ((i.toNat : Nat) : Int) := by omega
  rw [e, HT.sIx_nat, Int.toNat_natCast]
  omega
theorem cut_take {xs : List V} {i : Int} (h0 : 0 ≤ i) (h1 : i ≤ (xs.length : Int)) : cutV xs none (some i) = xs.take i.toNat := by
  unfold cutV
  rw [sIx_int h0 h1, HT.sIx_none, List.drop_zero, Nat.sub_zero]
theorem cut_drop {xs : List V} {i : Int} (h0 : 0 ≤ i) (h1 : i ≤ (xs.length : Int)) : cutV xs (some i) none = xs.drop i.toNat := by
  unfold cutV
  rw [sIx_int h0 h1, HT.sIx_none]
  exact List.take_of_length_le (by rw [List.length_drop]; exact Nat.le_refl _)
theorem cut_mid {xs : List V} {i j : Int} (h0 : 0 ≤ i) (h1 : i ≤ (xs.length : Int)) (h2 : 0 ≤ j) (h3 : j ≤ (xs.length : Int)) : cutV xs (some i) (some j) = (xs.drop i.toNat).take (j.toNat - i.toNat) := by
  unfold cutV
  rw [sIx_int h0 h1, sIx_int h2 h3]
theorem cut_takeI {ns : List Int} {i : Int} (h0 : 0 ≤ i) (h1 : i ≤ (ns.length : Int)) : cutV (ns.map V.int) none (some i) = (ns.take i.toNat).map V.int := by
  rw [cut_take h0 (by rw [List.length_map]; exact h1), List.map_take]
theorem cut_dropI {ns : List Int} {i : Int} (h0 : 0 ≤ i) (h1 : i ≤ (ns.length : Int)) : cutV (ns.map V.int) (some i) none = (ns.drop i.toNat).map V.int := by
  rw [cut_drop h0 (by rw [List.length_map]; exact h1), List.map_drop]
theorem cut_midI {ns : List Int} {i j : Int} (h0 : 0 ≤ i) (h1 : i ≤ (ns.length : Int)) (h2 : 0 ≤ j) (h3 : j ≤ (ns.length : Int)) : cutV (ns.map V.int) (some i) (some j) = ((ns.drop i.toNat).take (j.toNat - i.toNat)).map V.int := by
  rw [cut_mid h0 (by rw [List.length_map]; exact h1) h2 (by rw [List.length_map]; exact h3), List.map_take, List.map_drop]
theorem cut_int (ns : List Int) (lo hi : Option Int) : ∃ ms : List Int, cutV (ns.map V.int) lo hi = ms.map V.int ∧ ms.length ≤ ns.length := by
  refine ⟨(ns.drop (HT.sIx ns.length 0 lo)).take (HT.sIx ns.length ns.length hi - HT.sIx ns.length 0 lo), ?_, ?_⟩
  · unfold cutV
    rw [List.length_map, List.map_take, List.map_drop]
  · rw [List.length_take, List.length_drop]
    omega
theorem same_made {H H' : Hp} {x dx C : Addr} (nx : H x = none) (nd : H dx = none) (k : But x (upd (upd H dx (.own x)) x (.ins C dx [])) H') : Same H H' := fun b o e =>
  k b o (by rw [upd_ne (ne_of_none e nx), upd_ne (ne_of_none e nd)]; exact e) (ne_of_none e nx)
theorem r_at {xs : List V} {j : Nat} {v : V} {i : Int} (e : i = (j : Int)) (h : xs[j]? = some v) : atI xs i = some v := by
  rw [e]
  exact atI_nat h
/-- comparison of data -/
def pdV : V → PyData
  | .bl b => .bool b
  | .int i => .int i
  | _ => .none
def okV : V → Bool
  | .non => true
  | .int _ => true
  | _ => false
theorem okV_eqv : ∀ {x y : V}, okV x = true → okV y = true → PyData.eqv (pdV x) (pdV y) = decide (x = y)
  | .non, .non, _, _ => by rw [decide_eq_true rfl] <;> rfl
  | .non, .int j, _, _ => by rw [decide_eq_false (by intro h; cases h)] <;> rfl
  | .int i, .non, _, _ => by rw [decide_eq_false (by intro h; cases h)] <;> rfl
  | .int i, .int j, _, _ => by rw [dec_int] <;> rfl
theorem eqv_flat : ∀ {xs ys : List V}, xs.all okV = true → ys.all okV = true → PyData.eqvAll (xs.map pdV) (ys.map pdV) = decide (xs = ys)
  | [], [], _, _ => by rw [decide_eq_true rfl] <;> rfl
  | [], y :: ys, _, _ => by rw [decide_eq_false (by intro h; cases h)] <;> rfl
  | x :: xs, [], _, _ => by rw [decide_eq_false (by intro h; cases h)] <;> rfl
  | x :: xs, y :: ys, h1, h2 => by
    rw [List.all_cons, Bool.and_eq_true] at h1 h2
    have ih := eqv_flat (xs := xs) (ys := ys) h1.2 h2.2
    have e1 := okV_eqv h1.1 h2.1
    show (PyData.eqv (pdV x) (pdV y) && PyData.eqvAll (xs.map pdV) (ys.map pdV)) = _
    rw [ih, e1]
    by_cases a : x = y
    · by_cases b : xs = ys
      · rw [a, b]
        simp
      · rw [decide_eq_false b, Bool.and_false, decide_eq_false (by intro h; cases h; exact b rfl)]
    · rw [decide_eq_false a, Bool.false_and, decide_eq_false (by intro h; cases h; exact a rfl)]
theorem dpAll_flat {H : Hp} : ∀ {xs : List V}, xs.all okV = true → DpAll K H xs (xs.map pdV)
  | [], _ => .nil
  | .non :: xs, h => .cons .non (dpAll_flat (by rw [List.all_cons, Bool.and_eq_true] at h; exact h.2))
  | .int i :: xs, h => .cons (.int i) (dpAll_flat (by rw [List.all_cons, Bool.and_eq_true] at h; exact h.2))
theorem lay_flat : ∀ {xs : List V}, xs.all okV = true → PyData.canLayAll0 (xs.map pdV) = true ∧ PyData.depthAll (xs.map pdV) = 0
  | [], _ => ⟨rfl, rfl⟩
  | .non :: xs, h => by
    have ih := lay_flat (xs := xs) (by rw [List.all_cons, Bool.and_eq_true] at h; exact h.2)
    exact ⟨by show (true && PyData.canLayAll0 (xs.map pdV)) = true; rw [ih.1] <;> rfl, by show max 0 (PyData.depthAll (xs.map pdV)) = 0; rw [ih.2] <;> rfl⟩
  | .int i :: xs, h => by
    have ih := lay_flat (xs := xs) (by rw [List.all_cons, Bool.and_eq_true] at h; exact h.2)
    exact ⟨by show (true && PyData.canLayAll0 (xs.map pdV)) = true; rw [ih.1] <;> rfl, by show max 0 (PyData.depthAll (xs.map pdV)) = 0; rw [ih.2] <;> rfl⟩
theorem shaped_flat {xs : List V} (h : xs.all okV = true) : SeqAt.shaped (.list (xs.map pdV)) = true := by
  obtain ⟨a, b⟩ := lay_flat h
  show (PyData.canLayAll0 (xs.map pdV) && decide (PyData.depthAll (xs.map pdV) + 1 ≤ 64)) = true
  rw [a, b]
  rfl
theorem shaped_flatT {xs : List V} (h : xs.all okV = true) : SeqAt.shaped (.tuple (xs.map pdV)) = true := by
  obtain ⟨a, b⟩ := lay_flat h
  show (PyData.canLayAll0 (xs.map pdV) && decide (PyData.depthAll (xs.map pdV) + 1 ≤ 64)) = true
  rw [a, b]
  rfl
theorem r_eqL {a b : Addr} {xs ys : List V} (h : SqL K H a xs) (h' : SqL K H b ys) (o : xs.all okV = true) (o' : ys.all okV = true) (q : Q (.bl (decide (xs = ys))) H) : rEqD K (.ref a) (.ref b) H Q :=
  ⟨_, _, .lst h (dpAll_flat o), .lst h' (dpAll_flat o'), shaped_flat o, shaped_flat o', by
    show Q (.bl (PyData.eqvAll (xs.map pdV) (ys.map pdV))) H
    rw [eqv_flat o o']
    exact q⟩
theorem r_neL {a b : Addr} {xs ys : List V} (h : SqL K H a xs) (h' : SqL K H b ys) (o : xs.all okV = true) (o' : ys.all okV = true) (q : Q (.bl (!decide (xs = ys))) H) : rNeD K (.ref a) (.ref b) H Q :=
  ⟨_, _, .lst h (dpAll_flat o), .lst h' (dpAll_flat o'), shaped_flat o, shaped_flat o', by
    show Q (.bl (!PyData.eqvAll (xs.map pdV) (ys.map pdV))) H
    rw [eqv_flat o o']
    exact q⟩
theorem r_eqT {a b : Addr} {xs ys : List V} (h : SqT K H a xs) (h' : SqT K H b ys) (o : xs.all okV = true) (o' : ys.all okV = true) (q : Q (.bl (decide (xs = ys))) H) : rEqD K (.ref a) (.ref b) H Q :=
  ⟨_, _, .tup h (dpAll_flat o), .tup h' (dpAll_flat o'), shaped_flatT o, shaped_flatT o', by
    show Q (.bl (PyData.eqvAll (xs.map pdV) (ys.map pdV))) H
    rw [eqv_flat o o']
    exact q⟩
theorem r_neT {a b : Addr} {xs ys : List V} (h : SqT K H a xs) (h' : SqT K H b ys) (o : xs.all okV = true) (o' : ys.all okV = true) (q : Q (.bl (!decide (xs = ys))) H) : rNeD K (.ref a) (.ref b) H Q :=
  ⟨_, _, .tup h (dpAll_flat o), .tup h' (dpAll_flat o'), shaped_flatT o, shaped_flatT o', by
    show Q (.bl (!PyData.eqvAll (xs.map pdV) (ys.map pdV))) H
    rw [eqv_flat o o']
    exact q⟩
theorem all_int (ns : List Int) : (ns.map V.int).all okV = true := by
  rw [List.all_map]
  exact List.all_eq_true.mpr fun _ _ => rfl
theorem map_int_inj {a b : List Int} (h : a.map V.int = b.map V.int) : a = b := by
  have := congrArg (List.map fun v => match v with | V.int i => i | _ => 0) h
  rw [List.map_map, List.map_map] at this
  have e : ((fun v => match v with | V.int i => i | _ => 0) ∘ V.int) = (id : Int → Int) := by funext x; rfl
  rw [e, List.map_id, List.map_id] at this
  exact this
theorem dec_ints {a b : List Int} : decide (a.map V.int = b.map V.int) = decide (a = b) := by
  by_cases h : a = b
  · rw [h, decide_eq_true rfl, decide_eq_true rfl]
  · rw [decide_eq_false h, decide_eq_false (fun e => h (map_int_inj e))]
/-- isinstance -/
theorem r_isiT {x : V} {a b : String} (ty : TyX K H x (.type a)) (h : kitB a b = some true) (q : Q (.bl true) H) : rIsi K [x, .ty b] H Q := ⟨x, .ty b, .type a, .type b, true, rfl, .ty b, ty, kit_ty h, q⟩
theorem r_isiF {x : V} {a b : String} (ty : TyX K H x (.type a)) (h : kitB a b = some false) (q : Q (.bl false) H) : rIsi K [x, .ty b] H Q := ⟨x, .ty b, .type a, .type b, false, rfl, .ty b, ty, kit_ty h, q⟩
theorem tyX_sq {a : Addr} {xs : List V} (h : SqL K H a xs) : TyX K H (.ref a) (.type "list") := by
  rcases h with (h | ⟨o, h⟩) | ⟨o, its, n, h1, h2, _⟩
  · exact .base (.lst h)
  · exact .base (.frz h)
  · exact .kList h1 h2

/-! ### loops: the reading waits at one of these, its arguments seen -/
def LoopR (lo : Int) (n j : Nat) (tb : TS) : TS := fun D σ H => ∃ W : Nat → Nat → L2.St → Hp → Prop, (∃ m, W 0 m σ H) ∧ ∀ i m σ H, W i m σ H →
  ((Itr lo n).stop i H ∧ D.nx σ H) ∨ ((Itr lo n).go i H ∧ ∃ N : L2.St → Hp → Prop, (∀ σ' H', N σ' H' → ∃ m', m' < m ∧ W (i + 1) m' σ' H') ∧ ∀ x H', (Itr lo n).yld i H x H' → gName j x σ H' fun σ2 H2 => tb ⟨N, D.rt, D.nx, N⟩ σ2 H2)
def LoopL (K : PySem.W.Frag) (a : Addr) (j : Nat) (tb : TS) : TS := fun D σ H => ∃ W : Nat → Nat → L2.St → Hp → Prop, (∃ m, W 0 m σ H) ∧ ∀ i m σ H, W i m σ H →
  ((Itl K a).stop i H ∧ D.nx σ H) ∨ ((Itl K a).go i H ∧ ∃ N : L2.St → Hp → Prop, (∀ σ' H', N σ' H' → ∃ m', m' < m ∧ W (i + 1) m' σ' H') ∧ ∀ x H', (Itl K a).yld i H x H' → gName j x σ H' fun σ2 H2 => tb ⟨N, D.rt, D.nx, N⟩ σ2 H2)
def LoopC (lo c : Int) (n j : Nat) (tb : TS) : TS := fun D σ H => ∃ W : Nat → Nat → L2.St → Hp → Prop, (∃ m, W 0 m σ H) ∧ ∀ i m σ H, W i m σ H →
  ((Itc lo c n).stop i H ∧ D.nx σ H) ∨ ((Itc lo c n).go i H ∧ ∃ N : L2.St → Hp → Prop, (∀ σ' H', N σ' H' → ∃ m', m' < m ∧ W (i + 1) m' σ' H') ∧ ∀ x H', (Itc lo c n).yld i H x H' → gName j x σ H' fun σ2 H2 => tb ⟨N, D.rt, D.nx, N⟩ σ2 H2)
theorem r_for1 {tr : TA} {j : Nat} {tb : TS} (h : tr σ H fun vs H1 => ∃ n : Int, vs = [.int n] ∧ -(2 ^ 62) ≤ n ∧ n < 2 ^ 62 ∧ LoopR 0 n.toNat j tb ⟨nx, rt, bk, ct⟩ σ H1) : tFor (iRng1 tr) (gName j) tb ⟨nx, rt, bk, ct⟩ σ H := h
theorem r_rng1 {n : Int} {N : Int → Prop} (h : -1000000 ≤ n ∧ n ≤ 1000000) (q : N n) : ∃ m : Int, ([.int n] : List V) = [.int m] ∧ -(2 ^ 62) ≤ m ∧ m < 2 ^ 62 ∧ N m := ⟨n, rfl, by omega, by omega, q⟩
theorem r_for2 {tr : TA} {j : Nat} {tb : TS} (h : tr σ H fun vs H1 => ∃ m n : Int, vs = [.int m, .int n] ∧ (-(2 ^ 62) ≤ m ∧ m < 2 ^ 62 ∧ -(2 ^ 62) ≤ n ∧ n < 2 ^ 62) ∧ LoopR m (n - m).toNat j tb ⟨nx, rt, bk, ct⟩ σ H1) : tFor (iRng2 tr) (gName j) tb ⟨nx, rt, bk, ct⟩ σ H := h
theorem r_rng2 {m n : Int} {N : Int → Int → Prop} (h : -1000000 ≤ m ∧ m ≤ 1000000 ∧ -1000000 ≤ n ∧ n ≤ 1000000) (q : N m n) : ∃ a b : Int, ([.int m, .int n] : List V) = [.int a, .int b] ∧ (-(2 ^ 62) ≤ a ∧ a < 2 ^ 62 ∧ -(2 ^ 62) ≤ b ∧ b < 2 ^ 62) ∧ N a b := ⟨m, n, rfl, ⟨by omega, by omega, by omega, by omega⟩, q⟩
theorem r_forL {j : Nat} {tb : TS} (h : te σ H fun x H1 => ∃ a, x = .ref a ∧ (∃ xs, SqL K H1 a xs) ∧ LoopL K a j tb ⟨nx, rt, bk, ct⟩ σ H1) : tFor (iList K te) (gName j) tb ⟨nx, rt, bk, ct⟩ σ H := h
theorem r_itL {a : Addr} {xs : List V} {N : Addr → Prop} (h : SqL K H a xs) (q : N a) : ∃ b, V.ref a = .ref b ∧ (∃ xs, SqL K H b xs) ∧ N b := ⟨a, rfl, ⟨xs, h⟩, q⟩
theorem r_forC {j : Nat} {tb : TS} {tr : L2.St → Hp → (Int → Int → Hp → Prop) → Prop} (h : tr σ H fun a b H1 => -(2 ^ 62) ≤ a ∧ a < 2 ^ 62 ∧ -(2 ^ 62) ≤ b ∧ b < 2 ^ 62 ∧ LoopC (a + (((b - a).toNat : Nat) : Int) - 1) (-1) (b - a).toNat j tb ⟨nx, rt, bk, ct⟩ σ H1) : tFor (iRevR tr) (gName j) tb ⟨nx, rt, bk, ct⟩ σ H := h
theorem r_loopR {lo : Int} {n j : Nat} {tb : TS} (Pv : Nat → L2.St → Hp → Prop) (h0 : Pv 0 σ H)
    (hs : ∀ i σ' H', i < n → Pv i σ' H' → tb ⟨Pv (i + 1), rt, nx, Pv (i + 1)⟩ (σ'.set j (some (.int (lo + (i : Int))))) H') (hd : ∀ σ' H', Pv n σ' H' → nx σ' H') : LoopR lo n j tb ⟨nx, rt, bk, ct⟩ σ H :=
  for_range (g := gName j) Pv h0 hs hd
theorem r_loop0 {n j : Nat} {tb : TS} (Pv : Nat → L2.St → Hp → Prop) (h0 : Pv 0 σ H)
    (hs : ∀ i σ' H', i < n → Pv i σ' H' → tb ⟨Pv (i + 1), rt, nx, Pv (i + 1)⟩ (σ'.set j (some (.int (i : Int)))) H') (hd : ∀ σ' H', Pv n σ' H' → nx σ' H') : LoopR 0 n j tb ⟨nx, rt, bk, ct⟩ σ H :=
  r_loopR Pv h0 (fun i σ' H' hi hp => by
    have e : (0 : Int) + (i : Int) = (i : Int) := Int.zero_add _
    rw [e]
    exact hs i σ' H' hi hp) hd
theorem r_loopC {lo c : Int} {n j : Nat} {tb : TS} (Pv : Nat → L2.St → Hp → Prop) (h0 : Pv 0 σ H)
    (hs : ∀ i σ' H', i < n → Pv i σ' H' → tb ⟨Pv (i + 1), rt, nx, Pv (i + 1)⟩ (σ'.set j (some (.int (lo + (i : Nat) * c)))) H') (hd : ∀ σ' H', Pv n σ' H' → nx σ' H') : LoopC lo c n j tb ⟨nx, rt, bk, ct⟩ σ H :=
  for_rangeC (g := gName j) Pv h0 hs hd
theorem r_loopL {a : Addr} {xs : List V} {j : Nat} {tb : TS} (Pv : Nat → L2.St → Hp → Prop) (h0 : Pv 0 σ H) (hl : ∀ i σ' H', i ≤ xs.length → Pv i σ' H' → SqL K H' a xs)
    (hs : ∀ i x σ' H', xs[i]? = some x → Pv i σ' H' → tb ⟨Pv (i + 1), rt, nx, Pv (i + 1)⟩ (σ'.set j (some x)) H') (hd : ∀ σ' H', Pv xs.length σ' H' → nx σ' H') : LoopL K a j tb ⟨nx, rt, bk, ct⟩ σ H :=
  for_list (g := gName j) Pv h0 hl hs hd
theorem nth_int {ns : List Int} {i : Nat} {x : V} (h : (ns.map V.int)[i]? = some x) : ∃ z, ns[i]? = some z ∧ x = .int z := by
  rw [List.getElem?_map] at h
  cases e : ns[i]? with
  | none =>
    rw [e] at h
    cases h
  | some z =>
    rw [e] at h
    exact ⟨z, rfl, (Option.some.inj h).symm⟩
theorem r_loopI {a : Addr} {ns : List Int} {j : Nat} {tb : TS} (Pv : Nat → L2.St → Hp → Prop) (h0 : Pv 0 σ H) (hl : ∀ i σ' H', i ≤ ns.length → Pv i σ' H' → SqL K H' a (ns.map V.int))
    (hs : ∀ i z σ' H', ns[i]? = some z → Pv i σ' H' → tb ⟨Pv (i + 1), rt, nx, Pv (i + 1)⟩ (σ'.set j (some (.int z))) H') (hd : ∀ σ' H', Pv ns.length σ' H' → nx σ' H') : LoopL K a j tb ⟨nx, rt, bk, ct⟩ σ H :=
  r_loopL (xs := ns.map V.int) Pv h0 (fun i σ' H' hi => hl i σ' H' (by rw [List.length_map] at hi; exact hi)) (fun i x σ' H' hi hp => by
    obtain ⟨z, hz, rfl⟩ := nth_int hi
    exact hs i z σ' H' hz hp) (fun σ' H' hp => hd σ' H' (by rw [List.length_map] at hp; exact hp))
theorem r_while (W : Nat → L2.St → Hp → Prop) (m0 : Nat) (h0 : W m0 σ H)
    (hs : ∀ m σ' H', W m σ' H' → tt σ' H' fun b H1 => if b = true then ∃ N : L2.St → Hp → Prop, (∀ σ2 H2, N σ2 H2 → ∃ m', m' < m ∧ W m' σ2 H2) ∧ t ⟨N, rt, nx, N⟩ σ' H1 else nx σ' H1) : tWhile tt t ⟨nx, rt, bk, ct⟩ σ H :=
  ⟨W, ⟨m0, h0⟩, hs⟩
theorem r_wh {W : Nat → L2.St → Hp → Prop} {m : Nat} (h : t ⟨fun σ2 H2 => ∃ m', m' < m ∧ W m' σ2 H2, rt, nx, fun σ2 H2 => ∃ m', m' < m ∧ W m' σ2 H2⟩ σ H) :
    ∃ N : L2.St → Hp → Prop, (∀ σ2 H2, N σ2 H2 → ∃ m', m' < m ∧ W m' σ2 H2) ∧ t ⟨N, rt, nx, N⟩ σ H := ⟨_, fun _ _ h => h, h⟩
theorem r_rg1 {N : Int → Int → Hp → Prop} (h : ta σ H fun x H1 => ∃ n, x = .int n ∧ N 0 n H1) : tRg1 ta σ H N := h
theorem r_rg2 {N : Int → Int → Hp → Prop} (h : ta σ H fun x H1 => tb σ H1 fun y H2 => ∃ i j, x = .int i ∧ y = .int j ∧ N i j H2) : tRg2 ta tb σ H N := h
theorem r_ij {i j : Int} {N : Int → Int → Prop} (h : N i j) : ∃ a b, V.int i = V.int a ∧ V.int j = V.int b ∧ N a b := ⟨i, j, rfl, rfl, h⟩
theorem r_rngC {i j : Int} {N : Prop} (h : -1000000 ≤ i ∧ i ≤ 1000000 ∧ -1000000 ≤ j ∧ j ≤ 1000000) (q : N) : -(2 ^ 62) ≤ i ∧ i < 2 ^ 62 ∧ -(2 ^ 62) ≤ j ∧ j < 2 ^ 62 ∧ N := ⟨by omega, by omega, by omega, by omega, q⟩
theorem r_index1 {a : Addr} {ns : List Int} {y : Int} {j : Nat} (h : SqL K H a (ns.map V.int)) (hj : ns[j]? = some y) (hno : ∀ m : Nat, m < j → ns[m]? ≠ some y) (q : Q (.int (j : Nat)) H) : rIndex K (.ref a) [.int y] H Q := by
  refine ⟨a, ns.map V.int, .int y, j, .int y, rfl, rfl, h, rfl, by rw [List.all_map]; exact List.all_eq_true.mpr fun _ _ => rfl, by rw [List.getElem?_map, hj] <;> rfl, ?_, fun m z hm hz => ?_, q⟩
  · show (y == y) = true
    exact beq_self_eq_true y
  · rw [List.getElem?_map] at hz
    cases e : ns[m]? with
    | none =>
      rw [e] at hz
      cases hz
    | some x =>
      rw [e] at hz
      obtain rfl := Option.some.inj hz
      show (x == y) = false
      exact beq_eq_false_iff_ne.mpr fun z => hno m hm (by rw [e, z])
def LoopT (K : PySem.W.Frag) (a : Addr) (j : Nat) (tb : TS) : TS := fun D σ H => ∃ W : Nat → Nat → L2.St → Hp → Prop, (∃ m, W 0 m σ H) ∧ ∀ i m σ H, W i m σ H →
  ((Itt K a).stop i H ∧ D.nx σ H) ∨ ((Itt K a).go i H ∧ ∃ N : L2.St → Hp → Prop, (∀ σ' H', N σ' H' → ∃ m', m' < m ∧ W (i + 1) m' σ' H') ∧ ∀ x H', (Itt K a).yld i H x H' → gName j x σ H' fun σ2 H2 => tb ⟨N, D.rt, D.nx, N⟩ σ2 H2)
theorem r_forT {j : Nat} {tb : TS} (h : te σ H fun x H1 => ∃ a, x = .ref a ∧ (∃ xs, SqT K H1 a xs) ∧ LoopT K a j tb ⟨nx, rt, bk, ct⟩ σ H1) : tFor (iTup K te) (gName j) tb ⟨nx, rt, bk, ct⟩ σ H := h
theorem r_itT {a : Addr} {xs : List V} {N : Addr → Prop} (h : SqT K H a xs) (q : N a) : ∃ b, V.ref a = .ref b ∧ (∃ xs, SqT K H b xs) ∧ N b := ⟨a, rfl, ⟨xs, h⟩, q⟩
theorem r_loopT {a : Addr} {xs : List V} {j : Nat} {tb : TS} (Pv : Nat → L2.St → Hp → Prop) (h0 : Pv 0 σ H) (hl : ∀ i σ' H', i ≤ xs.length → Pv i σ' H' → SqT K H' a xs)
    (hs : ∀ i x σ' H', xs[i]? = some x → Pv i σ' H' → tb ⟨Pv (i + 1), rt, nx, Pv (i + 1)⟩ (σ'.set j (some x)) H') (hd : ∀ σ' H', Pv xs.length σ' H' → nx σ' H') : LoopT K a j tb ⟨nx, rt, bk, ct⟩ σ H :=
  for_tup (g := gName j) Pv h0 hl hs hd
/-! comprehensions -/
def LcL (K : PySem.W.Frag) (a : Addr) (j : Nat) (tt : TT) (te : TE) (vs : List Nat) : TE := fun σ H Q => ∀ D, H D = none → ∃ W : Nat → Nat → Hp → Prop, (∃ m, W 0 m (upd H D (.lst []))) ∧ ∀ i m H, W i m H →
  ((Itl K a).stop i H ∧ Q (.ref D) H) ∨ ((Itl K a).go i H ∧ ∃ Nx : Hp → Prop, (∀ H', Nx H' → ∃ m', m' < m ∧ W (i + 1) m' H') ∧ ∀ x H', (Itl K a).yld i H x H' → gName j x (wipe σ vs) H' fun σ2 H2 => wipe σ2 vs = wipe σ vs ∧ tt σ2 H2 fun b H3 =>
    if b = true then te σ2 H3 fun y H4 => ∃ acc, H4 D = some (.lst acc) ∧ acc.length < sizeLine ∧ Nx (upd H4 D (.lst (acc ++ [y]))) else Nx H3)
def LcR (lo : Int) (n j : Nat) (tt : TT) (te : TE) (vs : List Nat) : TE := fun σ H Q => ∀ D, H D = none → ∃ W : Nat → Nat → Hp → Prop, (∃ m, W 0 m (upd H D (.lst []))) ∧ ∀ i m H, W i m H →
  ((Itr lo n).stop i H ∧ Q (.ref D) H) ∨ ((Itr lo n).go i H ∧ ∃ Nx : Hp → Prop, (∀ H', Nx H' → ∃ m', m' < m ∧ W (i + 1) m' H') ∧ ∀ x H', (Itr lo n).yld i H x H' → gName j x (wipe σ vs) H' fun σ2 H2 => wipe σ2 vs = wipe σ vs ∧ tt σ2 H2 fun b H3 =>
    if b = true then te σ2 H3 fun y H4 => ∃ acc, H4 D = some (.lst acc) ∧ acc.length < sizeLine ∧ Nx (upd H4 D (.lst (acc ++ [y]))) else Nx H3)
theorem r_lc1 {tr : TA} {j : Nat} {vs : List Nat} (h : tr σ H fun ws H1 => ∃ n : Int, ws = [.int n] ∧ -(2 ^ 62) ≤ n ∧ n < 2 ^ 62 ∧ LcR 0 n.toNat j tt te vs σ H1 Q) : tLc (iRng1 tr) (gName j) tt te vs σ H Q := h
theorem r_lc2 {tr : TA} {j : Nat} {vs : List Nat} (h : tr σ H fun ws H1 => ∃ m n : Int, ws = [.int m, .int n] ∧ (-(2 ^ 62) ≤ m ∧ m < 2 ^ 62 ∧ -(2 ^ 62) ≤ n ∧ n < 2 ^ 62) ∧ LcR m (n - m).toNat j tt te vs σ H1 Q) : tLc (iRng2 tr) (gName j) tt te vs σ H Q := h
theorem r_lcL {j : Nat} {vs : List Nat} (h : ta σ H fun x H1 => ∃ a, x = .ref a ∧ (∃ xs, SqL K H1 a xs) ∧ LcL K a j tt te vs σ H1 Q) : tLc (iList K ta) (gName j) tt te vs σ H Q := h
theorem r_yes {N : Bool → Hp → Prop} (h : N true H) : tYes σ H N := h
theorem r_LcL {a : Addr} {xs : List V} {j : Nat} {vs : List Nat} (hx : SqL K H a xs) (acc : Nat → List V) (h0 : acc 0 = []) (hz : ∀ i, i ≤ xs.length → (acc i).length ≤ 100000) (hw : ∀ x, wipe ((wipe σ vs).set j (some x)) vs = wipe σ vs)
    (hs : ∀ i x H' (N : VK) (Z : Hp → Prop), xs[i]? = some x → Same H H' → (∀ y H4, Same H' H4 → acc (i + 1) = acc i ++ [y] → N y H4) → (∀ H3, Same H' H3 → acc (i + 1) = acc i → Z H3) →
      tt ((wipe σ vs).set j (some x)) H' fun b H3 => if b = true then te ((wipe σ vs).set j (some x)) H3 N else Z H3)
    (hd : ∀ p H', H p = none → Same H H' → H' p = some (.lst (acc xs.length)) → Q (.ref p) H') : LcL K a j tt te vs σ H Q := by
  intro p np
  refine lc_list (g := gName j) (xs := xs) (fun i H' => i ≤ xs.length ∧ Same H H' ∧ H' p = some (.lst (acc i))) ⟨Nat.zero_le _, same_new np _, by rw [h0]; exact upd_same⟩ (fun i H' _ q => q.2.1.seq hx) (fun i x H' hi q => ?_) (fun H' q => hd p H' np q.2.1 q.2.2)
  obtain ⟨_, s, e⟩ := q
  have hil : i < xs.length := (List.getElem?_eq_some_iff.mp hi).1
  refine ⟨hw x, hs i x H' _ _ hi s (fun y H4 s4 e4 => ?_) fun H3 s3 e3 => ?_⟩
  · refine ⟨acc i, s4 _ _ e, Nat.lt_of_le_of_lt (hz i (Nat.le_of_lt hil)) (by decide), hil, ?_, ?_⟩
    · exact same_mut (s.trans s4) np
    · rw [e4]
      exact upd_same
  · exact ⟨hil, s.trans s3, by rw [e3]; exact s3 _ _ e⟩
theorem r_LcR {lo : Int} {n : Nat} {j : Nat} {vs : List Nat} (acc : Nat → List V) (h0 : acc 0 = []) (hz : ∀ i, i ≤ n → (acc i).length ≤ 100000) (hw : ∀ x, wipe ((wipe σ vs).set j (some x)) vs = wipe σ vs)
    (hs : ∀ i H' (N : VK) (Z : Hp → Prop), i < n → Same H H' → (∀ y H4, Same H' H4 → acc (i + 1) = acc i ++ [y] → N y H4) → (∀ H3, Same H' H3 → acc (i + 1) = acc i → Z H3) →
      tt ((wipe σ vs).set j (some (.int (lo + (i : Int))))) H' fun b H3 => if b = true then te ((wipe σ vs).set j (some (.int (lo + (i : Int))))) H3 N else Z H3)
    (hd : ∀ p H', H p = none → Same H H' → H' p = some (.lst (acc n)) → Q (.ref p) H') : LcR lo n j tt te vs σ H Q := by
  intro p np
  refine lc_range (g := gName j) (fun i H' => i ≤ n ∧ Same H H' ∧ H' p = some (.lst (acc i))) ⟨Nat.zero_le _, same_new np _, by rw [h0]; exact upd_same⟩ (fun i H' hi q => ?_) (fun H' q => hd p H' np q.2.1 q.2.2)
  obtain ⟨_, s, e⟩ := q
  refine ⟨hw _, hs i H' _ _ hi s (fun y H4 s4 e4 => ?_) fun H3 s3 e3 => ?_⟩
  · refine ⟨acc i, s4 _ _ e, Nat.lt_of_le_of_lt (hz i (Nat.le_of_lt hi)) (by decide), hi, ?_, ?_⟩
    · exact same_mut (s.trans s4) np
    · rw [e4]
      exact upd_same
  · exact ⟨hi, s.trans s3, by rw [e3]; exact s3 _ _ e⟩
theorem r_LcR0 {n : Nat} {j : Nat} {vs : List Nat} (acc : Nat → List V) (h0 : acc 0 = []) (hz : ∀ i, i ≤ n → (acc i).length ≤ 100000) (hw : ∀ x, wipe ((wipe σ vs).set j (some x)) vs = wipe σ vs)
    (hs : ∀ i H' (N : VK) (Z : Hp → Prop), i < n → Same H H' → (∀ y H4, Same H' H4 → acc (i + 1) = acc i ++ [y] → N y H4) → (∀ H3, Same H' H3 → acc (i + 1) = acc i → Z H3) →
      tt ((wipe σ vs).set j (some (.int (i : Int)))) H' fun b H3 => if b = true then te ((wipe σ vs).set j (some (.int (i : Int)))) H3 N else Z H3)
    (hd : ∀ p H', H p = none → Same H H' → H' p = some (.lst (acc n)) → Q (.ref p) H') : LcR 0 n j tt te vs σ H Q :=
  r_LcR acc h0 hz hw (fun i H' N Z hi s hN hZ => by
    have e : (0 : Int) + (i : Int) = (i : Int) := Int.zero_add _
    rw [e]
    exact hs i H' N Z hi s hN hZ) hd
/-- maps and filters, by how far one is -/
def mapAcc (f : V → V) (xs : List V) (i : Nat) : List V := (xs.take i).map f
theorem take_more {α : Type} : ∀ {l : List α} {i : Nat} {x : α}, l[i]? = some x → l.take (i + 1) = l.take i ++ [x]
  | [], i, x, h => by simp at h
  | a :: l, 0, x, h => by
    have e : a = x := Option.some.inj h
    subst e
    rfl
  | a :: l, i + 1, x, h => by
    have ih := take_more (l := l) (i := i) (x := x) h
    show a :: l.take (i + 1) = a :: l.take i ++ [x]
    rw [ih]
    rfl
end
theorem getD_at' {ns : List Int} {k : Nat} (h : k < ns.length) : ns[k]? = some (ns.getD k 0) := by
  rw [List.getD_eq_getElem?_getD, List.getElem?_eq_getElem h]
  rfl
end VT
/-! ### water -/
namespace VT
def hgt : List Int → Int
  | [] => 0
  | x :: xs => if hgt xs < x then x else hgt xs
theorem hgt_nn : ∀ xs : List Int, 0 ≤ hgt xs
  | [] => Int.le_refl _
  | x :: xs => by
    have := hgt_nn xs
    show 0 ≤ (if hgt xs < x then x else hgt xs)
    split <;> omega
theorem hgt_le : ∀ {xs : List Int} {x : Int}, x ∈ xs → x ≤ hgt xs
  | y :: xs, x, h => by
    show x ≤ (if hgt xs < y then y else hgt xs)
    rcases List.mem_cons.mp h with e | e
    · split <;> omega
    · have := hgt_le e
      split <;> omega
theorem hgt_low : ∀ {xs : List Int} {m : Int}, 0 ≤ m → (∀ x ∈ xs, x ≤ m) → hgt xs ≤ m
  | [], _, h, _ => h
  | y :: xs, m, h, f => by
    have a := hgt_low h fun x hx => f x (List.mem_cons_of_mem _ hx)
    have b := f y (List.mem_cons_self ..)
    show (if hgt xs < y then y else hgt xs) ≤ m
    split <;> omega
theorem hgt_eq {xs : List Int} {m : Int} (nn : ∀ x ∈ xs, 0 ≤ x) (hm : m ∈ xs) (hl : ∀ x, x ∈ xs → x ≤ m) : m = hgt xs := by
  have a := hgt_le hm
  have b := hgt_low (nn m hm) hl
  omega
theorem hgt_append : ∀ (xs ys : List Int), hgt (xs ++ ys) = if hgt xs < hgt ys then hgt ys else hgt xs
  | [], ys => by
    have := hgt_nn ys
    show hgt ys = if (0 : Int) < hgt ys then hgt ys else 0
    split <;> omega
  | x :: xs, ys => by
    have ih := hgt_append xs ys
    show (if hgt (xs ++ ys) < x then x else hgt (xs ++ ys)) = if (if hgt xs < x then x else hgt xs) < hgt ys then hgt ys else (if hgt xs < x then x else hgt xs)
    rw [ih]
    repeat' split
    all_goals omega
theorem hgt_snoc (xs : List Int) (x : Int) (h : 0 ≤ x) : hgt (xs ++ [x]) = if x > hgt xs then x else hgt xs := by
  have e : hgt [x] = x := by
    show (if (0 : Int) < x then x else 0) = x
    split <;> omega
  rw [hgt_append, e]
theorem hgt_reverse : ∀ xs : List Int, hgt xs.reverse = hgt xs
  | [] => rfl
  | x :: xs => by
    have a := hgt_nn xs
    rw [List.reverse_cons, hgt_append, hgt_reverse xs]
    show (if hgt xs < (if (0 : Int) < x then x else 0) then (if (0 : Int) < x then x else 0) else hgt xs) = (if hgt xs < x then x else hgt xs)
    repeat' split
    all_goals omega
/-- how high water may stand at p -/
def lvl (ns : List Int) (p : Nat) : Int := if hgt (ns.drop p) < hgt (ns.take (p + 1)) then hgt (ns.drop p) else hgt (ns.take (p + 1))
def wetTo (ns : List Int) (i : Nat) : List Int := (List.range i).map fun p => lvl ns p - ns.getD p 0
def wet (ns : List Int) : List Int := wetTo ns ns.length
def lvls (ns : List Int) : List Int := (List.range ns.length).map (lvl ns)
theorem wetTo_len (ns : List Int) (i : Nat) : (wetTo ns i).length = i := by
  unfold wetTo
  rw [List.length_map, List.length_range]
theorem lvls_len (ns : List Int) : (lvls ns).length = ns.length := by
  unfold lvls
  rw [List.length_map, List.length_range]
theorem wetTo_more (ns : List Int) (i : Nat) : wetTo ns (i + 1) = wetTo ns i ++ [lvl ns i - ns.getD i 0] := by
  unfold wetTo
  rw [List.range_succ, List.map_append]
  rfl
theorem lvls_get {ns : List Int} {p : Nat} (h : p < ns.length) : (lvls ns).getD p 0 = lvl ns p := by
  unfold lvls
  rw [List.getD_eq_getElem?_getD, List.getElem?_map, List.getElem?_range h]
  rfl
theorem lvl_nn (ns : List Int) (p : Nat) : 0 ≤ lvl ns p := by
  unfold lvl
  have a := hgt_nn (ns.drop p)
  have b := hgt_nn (ns.take (p + 1))
  split <;> omega
theorem lvls_nn (ns : List Int) : ∀ x ∈ lvls ns, 0 ≤ x := fun x hx => by
  obtain ⟨p, _, rfl⟩ := List.mem_map.mp hx
  exact lvl_nn ns p
/-- the contrary row -/
theorem lvl_rev {ns : List Int} {p : Nat} (h : p < ns.length) : lvl ns.reverse p = lvl ns (ns.length - 1 - p) := by
  unfold lvl
  rw [List.take_reverse, List.drop_reverse, hgt_reverse, hgt_reverse, show ns.length - (p + 1) = ns.length - 1 - p by omega, show ns.length - 1 - p + 1 = ns.length - p by omega]
  generalize hgt (ns.drop (ns.length - 1 - p)) = a
  generalize hgt (ns.take (ns.length - p)) = b
  split <;> split <;> omega
theorem wet_rev (ns : List Int) : wet ns.reverse = (wet ns).reverse := by
  apply List.ext_getElem?
  intro p
  unfold wet
  by_cases h : p < ns.length
  · rw [List.getElem?_reverse (by rw [wetTo_len]; exact h), wetTo_len]
    unfold wetTo
    rw [List.getElem?_map, List.getElem?_map, List.getElem?_range (by rw [List.length_reverse]; exact h), List.getElem?_range (by omega)]
    show some (lvl ns.reverse p - ns.reverse.getD p 0) = some (lvl ns (ns.length - 1 - p) - ns.getD (ns.length - 1 - p) 0)
    rw [lvl_rev h, List.getD_eq_getElem?_getD, List.getElem?_reverse h, ← List.getD_eq_getElem?_getD]
  · rw [List.getElem?_eq_none (by rw [wetTo_len, List.length_reverse]; omega), List.getElem?_eq_none (by rw [List.length_reverse, wetTo_len]; omega)]
/-- with the water as towers no water stands -/
theorem take_mem {α : Type} {l : List α} {k : Nat} {x : α} (h : x ∈ l.take k) : ∃ q, q < k ∧ l[q]? = some x := by
  obtain ⟨q, hq⟩ := List.mem_iff_getElem?.mp h
  rw [List.getElem?_take] at hq
  by_cases c : q < k
  · rw [if_pos c] at hq
    exact ⟨q, c, hq⟩
  · rw [if_neg c] at hq
    cases hq
theorem drop_mem {α : Type} {l : List α} {k : Nat} {x : α} (h : x ∈ l.drop k) : ∃ q, k ≤ q ∧ l[q]? = some x := by
  obtain ⟨q, hq⟩ := List.mem_iff_getElem?.mp h
  rw [List.getElem?_drop] at hq
  exact ⟨k + q, by omega, hq⟩
theorem hgt_take_mono {ns : List Int} {a b : Nat} (h : a ≤ b) : hgt (ns.take a) ≤ hgt (ns.take b) := hgt_low (hgt_nn _) fun x hx => by
  obtain ⟨q, hq, e⟩ := take_mem hx
  refine hgt_le (List.mem_of_getElem? (i := q) ?_)
  rw [List.getElem?_take, if_pos (by omega)]
  exact e
theorem hgt_drop_mono {ns : List Int} {a b : Nat} (h : a ≤ b) : hgt (ns.drop b) ≤ hgt (ns.drop a) := hgt_low (hgt_nn _) fun x hx => by
  obtain ⟨q, hq, e⟩ := drop_mem hx
  refine hgt_le (List.mem_of_getElem? (i := q - a) ?_)
  rw [List.getElem?_drop, show a + (q - a) = q by omega]
  exact e
theorem lvls_at {ns : List Int} {q : Nat} {x : Int} (e : (lvls ns)[q]? = some x) : q < ns.length ∧ x = lvl ns q := by
  have h : q < ns.length := by
    have := (List.getElem?_eq_some_iff.mp e).1
    rw [lvls_len] at this
    exact this
  refine ⟨h, ?_⟩
  unfold lvls at e
  rw [List.getElem?_map, List.getElem?_range h] at e
  exact (Option.some.inj e).symm
theorem lvl_lvls {ns : List Int} {p : Nat} (h : p < ns.length) : lvl (lvls ns) p = lvl ns p := by
  have hp : (lvls ns)[p]? = some (lvl ns p) := by
    unfold lvls
    rw [List.getElem?_map, List.getElem?_range h]
    rfl
  have a1 : lvl ns p ≤ hgt ((lvls ns).take (p + 1)) := hgt_le (List.mem_of_getElem? (i := p) (by rw [List.getElem?_take, if_pos (by omega)]; exact hp))
  have a2 : lvl ns p ≤ hgt ((lvls ns).drop p) := hgt_le (List.mem_of_getElem? (i := 0) (by rw [List.getElem?_drop, Nat.add_zero]; exact hp))
  have b1 : hgt ((lvls ns).take (p + 1)) ≤ hgt (ns.take (p + 1)) := hgt_low (hgt_nn _) fun x hx => by
    obtain ⟨q, hq, e⟩ := take_mem hx
    obtain ⟨_, rfl⟩ := lvls_at e
    have := hgt_take_mono (ns := ns) (a := q + 1) (b := p + 1) (by omega)
    unfold lvl
    split <;> omega
  have b2 : hgt ((lvls ns).drop p) ≤ hgt (ns.drop p) := hgt_low (hgt_nn _) fun x hx => by
    obtain ⟨q, hq, e⟩ := drop_mem hx
    obtain ⟨_, rfl⟩ := lvls_at e
    have := hgt_drop_mono (ns := ns) hq
    unfold lvl
    split <;> omega
  show (if hgt ((lvls ns).drop p) < hgt ((lvls ns).take (p + 1)) then hgt ((lvls ns).drop p) else hgt ((lvls ns).take (p + 1))) = lvl ns p
  have c : lvl ns p = if hgt (ns.drop p) < hgt (ns.take (p + 1)) then hgt (ns.drop p) else hgt (ns.take (p + 1)) := rfl
  split at c <;> split <;> omega
theorem wet_lvls (ns : List Int) : wet (lvls ns) = List.replicate ns.length 0 := by
  apply List.ext_getElem?
  intro p
  unfold wet
  by_cases h : p < ns.length
  · unfold wetTo
    rw [List.getElem?_map, List.getElem?_range (by rw [lvls_len]; exact h), List.getElem?_replicate, if_pos h]
    show some (lvl (lvls ns) p - (lvls ns).getD p 0) = some 0
    rw [lvl_lvls h, lvls_get h, Int.sub_self]
  · rw [List.getElem?_eq_none (by rw [wetTo_len, lvls_len]; omega), List.getElem?_replicate, if_neg h]
/-- filling from the greatest tower -/
theorem map_range_set {n k : Nat} {f g : Nat → Int} (hk : g k = v) (hg : ∀ p, p ≠ k → g p = f p) : ((List.range n).map f).set k v = (List.range n).map g := by
  apply List.ext_getElem?
  intro p
  rw [List.getElem?_set]
  by_cases e : k = p
  · subst e
    rw [if_pos rfl]
    by_cases h : k < n
    · rw [List.length_map, List.length_range, if_pos h, List.getElem?_map, List.getElem?_range h, ← hk]
      rfl
    · rw [List.length_map, List.length_range, if_neg h, List.getElem?_eq_none (by rw [List.length_map, List.length_range]; omega)]
  · rw [if_neg e, List.getElem?_map, List.getElem?_map]
    by_cases h : p < n
    · rw [List.getElem?_range h]
      show some (f p) = some (g p)
      rw [hg p (fun z => e z.symm)]
    · rw [List.getElem?_eq_none (by rw [List.length_range]; omega)] <;> rfl
theorem map_range_id (ns : List Int) : (List.range ns.length).map (fun p => ns.getD p 0) = ns := by
  apply List.ext_getElem?
  intro p
  rw [List.getElem?_map]
  by_cases h : p < ns.length
  · rw [List.getElem?_range h, getD_at' h] <;> rfl
  · rw [List.getElem?_eq_none (by rw [List.length_range]; omega), List.getElem?_eq_none (by omega)] <;> rfl
/-- ns with the levels where f says so -/
def filled (ns : List Int) (f : Nat → Bool) : List Int := (List.range ns.length).map fun p => if f p = true then lvl ns p else ns.getD p 0
theorem filled_len (ns : List Int) (f : Nat → Bool) : (filled ns f).length = ns.length := by
  unfold filled
  rw [List.length_map, List.length_range]
theorem filled_none (ns : List Int) : filled ns (fun _ => false) = ns := map_range_id ns
theorem filled_all (ns : List Int) : filled ns (fun _ => true) = lvls ns := rfl
theorem filled_set {ns : List Int} {f g : Nat → Bool} {k : Nat} {v : Int} (hv : v = lvl ns k) (hk : g k = true) (hg : ∀ p, p ≠ k → g p = f p) : (filled ns f).set k v = filled ns g := by
  refine map_range_set ?_ fun p hp => ?_
  · rw [hk, hv]
    rfl
  · rw [hg p hp]
theorem filled_ext {ns : List Int} {f g : Nat → Bool} (h : ∀ p, p < ns.length → f p = g p) : filled ns f = filled ns g := by
  unfold filled
  refine List.map_congr_left fun p hp => ?_
  rw [h p (List.mem_range.mp hp)]
/-- the greatest tower -/
structure IsTop (ns : List Int) (t : Nat) (m : Int) : Prop where
  at' : ns[t]? = some m
  all : ∀ x ∈ ns, x ≤ m
theorem IsTop.hgt {ns : List Int} {t : Nat} {m : Int} (h : IsTop ns t m) (nn : ∀ x ∈ ns, 0 ≤ x) {ms : List Int} (hs : ∀ x ∈ ms, x ∈ ns) (hm : m ∈ ms) : hgt ms = m :=
  (hgt_eq (fun x hx => nn x (hs x hx)) hm fun x hx => h.all x (hs x hx)).symm
theorem hgt_sub {ns ms : List Int} (h : ∀ x ∈ ms, x ∈ ns) : hgt ms ≤ hgt ns := hgt_low (hgt_nn _) fun x hx => hgt_le (h x hx)
theorem lvl_ahead {ns : List Int} {t p : Nat} {m : Int} (h : IsTop ns t m) (nn : ∀ x ∈ ns, 0 ≤ x) (hp : p ≤ t) : lvl ns p = hgt (ns.take (p + 1)) := by
  have a : hgt (ns.drop p) = m := h.hgt nn (fun x hx => List.mem_of_mem_drop hx) (List.mem_of_getElem? (i := t - p) (by rw [List.getElem?_drop, show p + (t - p) = t by omega]; exact h.at'))
  have b : hgt (ns.take (p + 1)) ≤ m := hgt_low (nn m (List.mem_of_getElem? h.at')) fun x hx => h.all x (List.mem_of_mem_take hx)
  unfold lvl
  split <;> omega
theorem lvl_behind {ns : List Int} {t p : Nat} {m : Int} (h : IsTop ns t m) (nn : ∀ x ∈ ns, 0 ≤ x) (hp : t ≤ p) : lvl ns p = hgt (ns.drop p) := by
  have a : hgt (ns.take (p + 1)) = m := h.hgt nn (fun x hx => List.mem_of_mem_take hx) (List.mem_of_getElem? (i := t) (by rw [List.getElem?_take, if_pos (by omega)]; exact h.at'))
  have b : hgt (ns.drop p) ≤ m := hgt_low (nn m (List.mem_of_getElem? h.at')) fun x hx => h.all x (List.mem_of_mem_drop hx)
  unfold lvl
  split <;> omega
theorem lvl_top {ns : List Int} {t : Nat} {m : Int} (h : IsTop ns t m) (nn : ∀ x ∈ ns, 0 ≤ x) : lvl ns t = m := by
  rw [lvl_ahead h nn (Nat.le_refl _)]
  exact h.hgt nn (fun x hx => List.mem_of_mem_take hx) (List.mem_of_getElem? (i := t) (by rw [List.getElem?_take, if_pos (by omega)]; exact h.at'))
theorem hgt_take_more {ns : List Int} {p : Nat} (nn : ∀ x ∈ ns, 0 ≤ x) (hp : p < ns.length) : (if ns.getD p 0 > hgt (ns.take p) then ns.getD p 0 else hgt (ns.take p)) = hgt (ns.take (p + 1)) := by
  have e := getD_at' hp
  rw [take_more e, hgt_snoc _ _ (nn _ (List.mem_of_getElem? e))]
theorem hgt_drop_more {ns : List Int} {p : Nat} (hp : p < ns.length) : (if ns.getD p 0 > hgt (ns.drop (p + 1)) then ns.getD p 0 else hgt (ns.drop (p + 1))) = hgt (ns.drop p) := by
  have e := getD_at' hp
  have e2 : ns.drop p = ns.getD p 0 :: ns.drop (p + 1) := by
    rw [List.drop_eq_getElem_cons hp, List.getD_eq_getElem?_getD, List.getElem?_eq_getElem hp]
    rfl
  rw [e2]
  rfl
theorem filled_same {ns : List Int} {f g : Nat → Bool} {k : Nat} (hk : lvl ns k = ns.getD k 0) (h : ∀ p, p < ns.length → p ≠ k → f p = g p) : filled ns f = filled ns g := by
  unfold filled
  refine List.map_congr_left fun p hp => ?_
  by_cases e : p = k
  · rw [e, hk]
    split <;> split <;> rfl
  · rw [h p (List.mem_range.mp hp) e]
end VT
namespace VT
theorem first_at {ns : List Int} {m : Int} (h : m ∈ ns) : ∃ t : Nat, ns[t]? = some m ∧ ∀ j : Nat, j < t → ns[j]? ≠ some m := by
  induction ns with
  | nil => cases h
  | cons a r ih =>
    by_cases e : a = m
    · exact ⟨0, by rw [e] <;> rfl, fun j hj => absurd hj (Nat.not_lt_zero j)⟩
    · obtain ⟨t, h1, h2⟩ := ih (by
        rcases List.mem_cons.mp h with z | z
        · exact absurd z.symm e
        · exact z)
      refine ⟨t + 1, h1, fun j hj => ?_⟩
      cases j with
      | zero => exact fun z => e (Option.some.inj z)
      | succ j => exact h2 j (by omega)
end VT
/-! ### list(reversed(xs)), xs a list -/
namespace RLi
open PySem PySem.Spec PyProof.Rows L2 RT
section
variable {prog : Program} {w : World} {A : Around} {E : Value → Shared → Prop} {s : Shared}
theorem ext_rev {R : Result → Shared → Prop} {it l : Addr} {its : Array Value} (hh : A.handled = none) (hit : s.heap.IsRevIter it l ((its.size : Int) - 1)) (hl : s.heap.IsList l its) (hne : l ≠ it) (hn : its.size ≤ sizeLine)
    (S : Addr) (res : Value) (c0 : Nat) (hS : s.heap.get? S = some { cls := .type "list", data := .seq #[] c0 }) (nSl : S ≠ l) (nSi : S ≠ it)
    (hR : ∀ h' tk acc c', (∀ b o, b ≠ S → b ≠ it → s.heap.get? b = some o → h'.get? b = some o) → h'.get? S = some { cls := .type "list", dict := none, data := .seq acc c', slots := #[] } →
      ItemsOf (fun i v => its[its.size - 1 - i]? = some v) acc its.size → R (.ok (.ret res)) { s with heap := h', toks := tk }) :
    wpAny (model prog w) A.in1 (Builtin.List.listExtendWith (.ref S) (.ref it) res)
      (fun fin s' => match fin with | .done f => R (.ok f) s' | .again c' => c'.quiet = true ∧ codeAny (model prog w) A c' R s') (fun e s' => R (.error e) s') s := by
  have W := (Walks.listRev (prog := prog) (w := w) (A := A.in1) hh it l hne its).toS
  have fS : S ∉ [it, l] := by
    simp only [List.mem_cons, List.not_mem_nil, or_false, not_or]
    exact ⟨nSi, nSl⟩
  have ty : s.TypeIs (.ref it) "list_reverseiterator" := Heap.IsRevIter.typeIs (s := s) hit
  have same : Builtin.List.listSameRef (.ref S) (.ref it) = false := by simp [Builtin.List.listSameRef, nSi]
  unfold Builtin.List.listExtendWith
  refine wpAny_bind (wpAny_typeOf ty ?_)
  rw [if_neg (by rw [same]; decide)]
  refine wpAny_bind (wpAny_pyIter_revIter (s := s) hit ?_)
  refine wpAny_bind (wpAny_holding ?_)
  unfold Builtin.List.listLengthHint
  refine wpAny_bind (wpAny_specialOf ty nolen_lri ?_)
  show wpAny _ A.in1 (specialOf (Value.ref it) (Str.ofString "__length_hint__") >>= _) _ _ _
  refine wpAny_bind (wpAny_specialOf ty hint_lri ?_)
  generalize hid : ("list_reverseiterator.__length_hint__" : String) = nm
  wp_delta
  rw [show splitId nm = some ("list_reverseiterator", "__length_hint__") from by subst hid; decide +kernel]
  subst hid
  refine wpAny_bind (wpAny_isInstance (b := true) ty (by rw [isSubtype_type]; kernel_rfl) ?_)
  refine wpAny_pure ?_
  rw [if_neg (by decide)]
  have z : (its.size : Int) - 1 - ((0 : Nat) : Int) = (its.size : Int) - 1 := by omega
  refine wpAny_pure ⟨plainId_quiet F.plain_extend_loop _, codeAny_extend_loopS W hn _ fS _ its.size 0 _ _ _ rfl (Nat.zero_le _) ⟨Nat.zero_le _, by rw [z]; exact hit, hl⟩ hS (ItemsOf.nil _) fun s' acc c' hm hS' ha => ?_⟩
  rw [Moved.eq_with hm]
  refine hR s'.heap s'.toks acc c' (fun b o hb hb2 e => hm.heap b o (fun hmem => ?_) e) hS' ha
  rcases List.mem_cons.mp hmem with e' | hmem
  · exact hb e'
  · exact hb2 (List.mem_singleton.mp hmem)
theorem init_rev {R : Result → Shared → Prop} {it l : Addr} {its : Array Value} (hh : A.handled = none) (hit : s.heap.IsRevIter it l ((its.size : Int) - 1)) (hl : s.heap.IsList l its) (hne : l ≠ it) (hn : its.size ≤ sizeLine)
    (S : Addr) (hS : s.heap.get? S = some { cls := .type "list", data := .seq #[] }) (nSl : S ≠ l) (nSi : S ≠ it)
    (hR : ∀ h' tk acc c', (∀ b o, b ≠ S → b ≠ it → s.heap.get? b = some o → h'.get? b = some o) → h'.get? S = some { cls := .type "list", dict := none, data := .seq acc c', slots := #[] } →
      ItemsOf (fun i v => its[its.size - 1 - i]? = some v) acc its.size → R (.ok (.ret .none)) { s with heap := h', toks := tk }) :
    wpAny (model prog w) A.in1 (Builtin.«list.__init__» ⟨[.ref S, .ref it], []⟩)
      (fun fin s' => match fin with | .done f => R (.ok f) s' | .again c' => c'.quiet = true ∧ codeAny (model prog w) A c' R s') (fun e s' => R (.error e) s') s := by
  show wpAny _ _ (do let old ← Builtin.List.listItems (.ref S); Builtin.List.listUpdate (.ref S) (fun _ => #[]); letGo old.toList.reverse; Builtin.List.listExtendWith (.ref S) (.ref it) .none) _ _ s
  refine wpAny_bind ?_
  unfold Builtin.List.listItems
  refine wpAny_bind (wpAny_seqItems hS rfl (wpAny_pure ?_))
  show wpAny _ _ (updateSeq S (fun _ => #[]) >>= fun _ => letGo (#[] : Array Value).toList.reverse >>= fun _ => Builtin.List.listExtendWith (.ref S) (.ref it) .none) _ _ s
  refine wpAny_bind (wpAny_updateSeq hS rfl ?_)
  have hS2 := Heap.get?_update_self (Obj.mapSeq (fun _ => (#[] : Array Value))) hS rfl
  have oth : ∀ b o, b ≠ S → s.heap.get? b = some o → (s.heap.update S (Obj.mapSeq (fun _ => (#[] : Array Value)))).get? b = some o := fun b o hb e =>
    (Heap.get?_update_other _ _ (Ne.symm hb)).trans e
  refine wpAny_bind (wpAny_letGo ?_)
  have hit2 : (s.heap.update S (Obj.mapSeq (fun _ => (#[] : Array Value)))).IsRevIter it l ((its.size : Int) - 1) := hit.at fun o e => oth it o nSi.symm e
  obtain ⟨ol, hol, rl⟩ := hl
  have hl2 : (s.heap.update S (Obj.mapSeq (fun _ => (#[] : Array Value)))).IsList l its := ⟨ol, oth l ol nSl.symm hol, rl⟩
  refine ext_rev (s := { s with heap := s.heap.update S (Obj.mapSeq (fun _ => (#[] : Array Value))) }) hh hit2 hl2 hne hn S .none _ hS2 nSl nSi fun h' tk acc c' hk hS' ha => ?_
  exact hR h' tk acc c' (fun b o hb hb2 e => hk b o hb hb2 (oth b o hb e)) hS' ha
theorem call_list_rev {Q : Value → Shared → Prop} {it l : Addr} {its : Array Value} (hh : A.handled = none) (hit : s.heap.IsRevIter it l ((its.size : Int) - 1)) (hl : s.heap.IsList l its) (hne : l ≠ it) (hn : its.size ≤ sizeLine)
    (hQ : ∀ h' tk acc c', (∀ b o, b ≠ it → s.heap.get? b = some o → h'.get? b = some o) → h'.get? s.heap.objs.size = some { cls := .type "list", dict := none, data := .seq acc c', slots := #[] } →
      ItemsOf (fun i v => its[its.size - 1 - i]? = some v) acc its.size → Q (.ref s.heap.objs.size) { s with heap := h', toks := tk }) :
    wpAny (model prog w) A (call (.type "list") [.ref it]) Q E s := by
  refine callType_codes (Q₁ := fun obj s1 => obj = .ref s.heap.objs.size ∧ s1 = { s with heap := s.heap.push { cls := .type "list", data := .seq #[] } }) F.called_list (F.typeCall_list_1 _) F.entry_list_init
    (code_list_new _ ⟨rfl, rfl⟩) fun obj s1 h1 => ?_
  obtain ⟨rfl, rfl⟩ := h1
  have hS : (s.heap.push { cls := .type "list", data := .seq #[] }).get? s.heap.objs.size = some { cls := .type "list", data := .seq #[] } := Heap.get?_push_size _ rfl
  obtain ⟨oi, hoi, _⟩ := id hit
  obtain ⟨ol, hol, _⟩ := id hl
  refine ⟨⟨_, hS, rfl⟩, F.args_list_init_2 _ _, init_rev (A := A.in1) hh (hit.at fun o e => Heap.get?_push_of_some _ e) (hl.push _) hne hn _ hS (Nat.ne_of_gt (Heap.lt_size hol)) (Nat.ne_of_gt (Heap.lt_size hoi)) fun h' tk acc c' hk hS' ha => ?_⟩
  exact ⟨rfl, hQ h' tk acc c' (fun b o hb e => hk b o (Nat.ne_of_lt (Heap.lt_size e)) hb (Heap.get?_push_of_some _ e)) hS' ha⟩
end
end RLi
namespace VT
open PySem PySem.Spec PyProof.Rows L2 RT RLi
/-- list(reversed(x)), x a list: a new list -/
def tListRev (K : PySem.W.Frag) (te : TE) : TE := fun σ H Q => te σ H fun v H1 => ∃ (a : Addr) (xs : List V), v = .ref a ∧ SqL K H1 a xs ∧ ∀ q, H1 q = none → Q (.ref q) (upd H1 q (.lst xs.reverse))
theorem r_listRev {K : PySem.W.Frag} {σ : L2.St} {H : Hp} {Q : VK} {te : TE} (h : te σ H fun v H1 => ∃ (a : Addr) (xs : List V), v = .ref a ∧ SqL K H1 a xs ∧ ∀ q, H1 q = none → Q (.ref q) (upd H1 q (.lst xs.reverse))) : tListRev K te σ H Q := h
theorem r_revOf {K : PySem.W.Frag} {H : Hp} {a : Addr} {xs : List V} {N : Addr → List V → Prop} (h : SqL K H a xs) (q : ∀ q, H q = none → N q xs) : ∃ (b : Addr) (ys : List V), V.ref a = .ref b ∧ SqL K H b ys ∧ ∀ q, H q = none → N q ys := ⟨a, xs, rfl, h, q⟩
theorem pe_listRev {X : Cx} {e : Expr} {te : TE} {p p2 pos pos2 : Pos} (hc : X.calm = true) (hg : Gl X "list") (hm : X.mg "list" = none) (hg2 : Gl X "reversed") (hm2 : X.mg "reversed" = none) (he : PE X e te)
    (hs : starEach [e] X.env = (false, eval e X.env) :: starEach [] X.env := by rfl)
    (hs2 : starEach [.Call (.Name "reversed" p2) [e] [] pos2] X.env = (false, eval (.Call (.Name "reversed" p2) [e] [] pos2) X.env) :: starEach [] X.env := by rfl) :
    PE X (.Call (.Name "list" p) [.Call (.Name "reversed" p2) [e] [] pos2] [] pos) (tListRev X.K te) := by
  refine ⟨fun pins s σ H Q I h => ?_⟩
  refine Call_ (ld_blt I hg hm boot_list (PyProof.Rows.callWith_type1 (args_cons (Call_ (ld_blt I hg2 hm2 PyProof.Rows.boot_reversed (PyProof.Rows.callWith_type1 (args_cons (thn (he.run pins s σ H _ I h) fun u s1 ⟨v, H1, I1, r1, q1⟩ => args_nil ?_) hs) hs rfl))) hs2) hs2 rfl))
  obtain ⟨a, xs, ev, hq, q⟩ := q1
  subst ev
  obtain rfl : u = Value.ref a := r1
  obtain ⟨its, rv, pl, hz⟩ := I1.list hq
  refine call_reversed_list pl.isList (args_nil ?_)
  have kp : ∀ b o, s1.heap.get? b = some o → (s1.heap.push (revObj a ((its.toArray.size : Int) - 1))).get? b = some o := fun b o e => Heap.get?_push_of_some _ e
  have I2 : Inv X pins σ H1 { s1 with heap := s1.heap.push (revObj a ((its.toArray.size : Int) - 1)) } := I1.kept (t' := s1.toks) kp
  have fp := I1.fpOk (H' := H1) (b := s1.heap.objs.size) (Nat.le_refl _) (I1.hok.fresh (Nat.le_refl _))
  have hl := pl.isList
  obtain ⟨ol, hol, _⟩ := id hl
  have ne : a ≠ s1.heap.objs.size := Nat.ne_of_lt (Heap.lt_size hol)
  have hn : its.toArray.size ≤ sizeLine := by rw [List.size_toArray, ← rv.length]; exact hz
  refine call_list_rev (s := { s1 with heap := s1.heap.push (revObj a ((its.toArray.size : Int) - 1)) }) (I1.ok.hd hc) ⟨_, Heap.get?_push_size _ rfl, rfl, rfl⟩ (hl.push _) ne hn fun h' tk acc c' hk hS ha => ?_
  have hfree : H1 (s1.heap.push (revObj a ((its.toArray.size : Int) - 1))).objs.size = none := I2.hok.fresh (Nat.le_refl _)
  have I3 := I2.turnedNew (t' := tk) (ch := [s1.heap.objs.size]) (T := (s1.heap.push (revObj a ((its.toArray.size : Int) - 1))).objs.size) (ob := .lst xs.reverse) (h' := h') (fun b o hb e => hk b o (fun z => hb (List.mem_singleton.mpr z)) e) (fun b hb => by
    rw [List.mem_singleton.mp hb]
    exact fp) (Nat.le_refl _) (show ObjOk X.prog X.w _ _ _ (.lst xs.reverse) from ⟨by rw [List.length_reverse]; exact hz, acc.toList, c', vals_rev rv ha, by rw [Array.toArray_toList]; exact hS⟩)
  exact ⟨.ref (s1.heap.push (revObj a ((its.toArray.size : Int) - 1))).objs.size, _, I3, rfl, q _ hfree⟩
end VT
local macro_rules | `(tactic| walk_at "ne") => `(tactic| first | assumption | exact Ne.symm (by assumption) | ((refine' VT.ne_new ?h1 ?h2); (case h1 => assumption); (case h2 => walk_at "hp")) | ((refine' VT.ne_new' ?h1 ?h2); (case h1 => assumption); (case h2 => walk_at "hp")))
local macro_rules | `(tactic| walk_at "hp") => `(tactic| first | assumption | exact L2.upd_same | ((refine' VT.up_get ?n ?h); (case n => walk_at "ne"); (case h => walk_at "hp")) | ((refine' VT.Same.get ?e ?h); (case e => assumption); (case h => walk_at "hp")) | ((refine' VT.But.get ?e ?n ?h); (case e => assumption); (case n => walk_at "ne"); (case h => walk_at "hp")))
local macro_rules | `(tactic| walk_at "fr") => `(tactic| first | assumption | ((refine' L2.Same.free ?e ?h); (case h => assumption); (case e => walk_at "sm")))
local macro_rules | `(tactic| walk_at "sm") => `(tactic| first | assumption | exact L2.Same.refl _ | ((refine' VT.same_new2 ?e ?h); (case h => assumption); (case e => walk_at "sm")) | ((refine' VT.same_mut ?e ?h); (case h => walk_at "fr"); (case e => walk_at "sm")) | ((refine' L2.Same.trans ?a ?b); (case b => assumption); (case a => walk_at "sm")) | ((refine' VT.same_but ?a ?b ?c); (case b => assumption); (case c => walk_at "fr"); (case a => walk_at "sm")))
local macro_rules | `(tactic| walk_at "sq") => `(tactic| first | assumption | ((refine' VT.SqL.lst ?h); (case h => walk_at "hp")) | ((refine' L2.Same.seq ?e ?h); (case h => assumption); (case e => walk_at "sm")))
local macro_rules | `(tactic| walk_at "sqT") => `(tactic| first | assumption | ((refine' VT.SqT.tup ?h); (case h => walk_at "hp")) | ((refine' VT.same_seqT ?e ?h); (case h => assumption); (case e => walk_at "sm")))
local macro_rules | `(tactic| walk_at "cond") => `(tactic| first | omega | (show (0 : Int) < _; omega) | exact ⟨by omega, by omega, by omega, by omega⟩ | exact ⟨by decide, by decide⟩ | exact ⟨by omega, by omega⟩ | exact Or.inl ⟨by omega, by omega⟩ | exact Or.inr ⟨by omega, by omega⟩ | exact ⟨by omega, by omega, by omega⟩ | decide)
local macro_rules | `(tactic| walk_at "go1") => `(tactic| first
  | with_reducible refine' VT.r_seq ?_ | with_reducible refine' VT.r_asg ?_ | with_reducible refine' VT.r_name ?_ | with_reducible refine' VT.r_sub ?_ | ((with_reducible refine' VT.r_var ?h ?_); (case h => exact rfl)) | with_reducible refine' VT.r_c ?_
  | with_reducible refine' VT.r_op ?_ | with_reducible refine' VT.r_I0 ?_ | with_reducible refine' VT.r_eqI ?_ | with_reducible refine' VT.r_neI ?_ | with_reducible refine' VT.r_eqB ?_ | with_reducible refine' VT.r_neB ?_
  | with_reducible refine' VT.r_test ?_ | with_reducible refine' VT.r_B ?_ | with_reducible refine' VT.r_bl ?_ | with_reducible refine' VT.r_cons ?_ | with_reducible refine' VT.r_nil ?_ | with_reducible refine' VT.r_CB ?_ | with_reducible refine' VT.r_call ?_
  | ((with_reducible refine' VT.r_I ?c ?_); (case c => walk_at "cond")) | ((with_reducible refine' VT.r_lenI ?s ?_); (case s => walk_at "sq")) | ((with_reducible refine' VT.r_len ?s ?_); (case s => walk_at "sq")) | ((with_reducible refine' VT.r_lenT ?s ?_); (case s => walk_at "sqT")) | ((with_reducible refine' VT.r_ixL ?s ?a ?_); (case s => walk_at "sq"); (case a => walk_at "at")) | ((with_reducible refine' VT.r_ixT ?s ?a ?_); (case s => walk_at "sqT"); (case a => walk_at "at"))
  | with_reducible refine' VT.r_for1 ?_ | ((with_reducible refine' VT.r_rng1 ?c ?_); (case c => walk_at "cond")) | with_reducible refine' VT.r_for2 ?_ | ((with_reducible refine' VT.r_rng2 ?c ?_); (case c => walk_at "cond")) | with_reducible refine' VT.r_forL ?_ | ((with_reducible refine' VT.r_itL ?s ?_); (case s => walk_at "sq")) | with_reducible refine' VT.r_forC ?_ | with_reducible refine' VT.r_rg1 ?_ | with_reducible refine' VT.r_rg2 ?_ | with_reducible refine' VT.r_ij ?_ | ((with_reducible refine' VT.r_rngC ?c ?_); (case c => walk_at "cond")) | with_reducible refine' VT.r_listRev ?_ | ((with_reducible refine' VT.r_revOf ?s ?_); (case s => walk_at "sq")) | with_reducible refine' VT.r_forT ?_ | ((with_reducible refine' VT.r_itT ?s ?_); (case s => walk_at "sqT"))
  | with_reducible refine' VT.r_lc1 ?_ | with_reducible refine' VT.r_lc2 ?_ | with_reducible refine' VT.r_lcL ?_ | with_reducible refine' VT.r_yes ?_
  | with_reducible refine' VT.r_drop ?_ | with_reducible refine' VT.r_ret ?_ | with_reducible refine' VT.r_retN ?_ | with_reducible refine' VT.r_if ?_ | with_reducible refine' VT.r_next ?_ | with_reducible refine' VT.r_chain ?_ | with_reducible refine' VT.r_chain3 ?_ | with_reducible refine' VT.r_sFld ?_ | with_reducible refine' VT.r_not ?_
  | with_reducible refine' VT.r_andV ?_ | with_reducible refine' VT.r_orV ?_ | with_reducible refine' VT.r_notV ?_ | with_reducible refine' VT.r_ifE ?_ | with_reducible refine' VT.r_lst ?_ | with_reducible refine' VT.r_tup ?_ | with_reducible refine' VT.r_sl ?_ | with_reducible refine' VT.r_part ?_ | with_reducible refine' VT.r_int ?_ | with_reducible refine' VT.r_noPart ?_
  | with_reducible refine' VT.r_bm ?_ | with_reducible refine' VT.r_bm0 ?_ | with_reducible refine' VT.r_fld ?_ | with_reducible refine' VT.r_un ?_ | with_reducible refine' VT.r_U ?_ | with_reducible refine' VT.r_isN ?_ | with_reducible refine' VT.r_notN ?_ | with_reducible refine' VT.r_meth ?_ | with_reducible refine' VT.r_make ?_
  | ((with_reducible refine' VT.r_tyL ?s ?_); (case s => walk_at "sq")) | ((with_reducible refine' VT.r_app ?h ?z ?_); (case h => walk_at "hp"); (case z => walk_at "len")) | ((with_reducible refine' VT.r_fldR ?h ?c ?n ?_); (case h => walk_at "hp"); (case c => assumption); (case n => assumption)) | ((with_reducible refine' VT.r_methR ?h ?m ?_); (case h => walk_at "hp"); (case m => decide +kernel)) | ((with_reducible refine' VT.r_new ?z ?_); (case z => exact Nat.le_of_ble_eq_true rfl)))
local macro_rules | `(tactic| walk_at "andor") => `(tactic| first | with_reducible refine' VT.r_and ?_ | with_reducible refine' VT.r_or ?_)
local macro_rules | `(tactic| walk_at "go") => `(tactic| repeat walk_at "go1")
local macro_rules | `(tactic| walk_at "at") => `(tactic| first | assumption | exact L2.atI_nat (by assumption) | exact VT.r_at (by assumption) (by assumption) | exact VT.r_at (by omega) (by assumption) | exact VT.r_at rfl (by assumption) | exact VT.r_at (j := 0) rfl rfl | exact VT.r_at (j := 1) rfl rfl | exact VT.r_at (j := 2) rfl rfl)
local macro_rules | `(tactic| walk_at "len") => `(tactic| (simp only [List.length_map, List.length_append, List.length_cons, List.length_nil, List.length_take, List.length_drop, List.length_replicate]; omega))
local macro_rules | `(tactic| walk_at "and") => `(tactic| ((with_reducible refine' VT.r_andD ?a ?b ?_); (case a => intro Z h; walk_at "go"; exact h); (case b => intro Z h; walk_at "go"; exact h)))
local macro_rules | `(tactic| walk_at "or") => `(tactic| ((with_reducible refine' VT.r_orD ?a ?b ?_); (case a => intro Z h; walk_at "go"; exact h); (case b => intro Z h; walk_at "go"; exact h)))
local macro_rules | `(tactic| walk_at "and") => `(tactic| ((with_reducible refine' VT.r_andD ?a ?b ?_); (case a => (intro Z h); (walk_at "go"); exact h); (case b => (intro Z h); (walk_at "go"); exact h)))
local macro_rules | `(tactic| walk_at "or") => `(tactic| ((with_reducible refine' VT.r_orD ?a ?b ?_); (case a => (intro Z h); (walk_at "go"); exact h); (case b => (intro Z h); (walk_at "go"); exact h)))
namespace VT
open PySem PySem.Spec PyProof.Rows L2
def top (i : Nat) : Stmt := PySem.Challenge.pw_valleytree_k13_water.main.body.getD i (.Pass ⟨0, 0, 0, 0⟩)
abbrev s_ask_sky : Stmt := top 8
abbrev s_Row_numbers : Stmt := inClass (top 12) 3
abbrev s_water : Stmt := top 9
abbrev s_Row___init__ : Stmt := inClass (top 12) 0
abbrev s_Row_ask : Stmt := inClass (top 12) 1
abbrev s_Row_ask_stretch : Stmt := inClass (top 12) 2
abbrev s_Row_set_at : Stmt := inClass (top 12) 4
abbrev s_Row_take_out : Stmt := inClass (top 12) 5
abbrev s_Row_put_in : Stmt := inClass (top 12) 6
abbrev s_Row_add_to : Stmt := inClass (top 12) 7
abbrev s__law_cell_at : Stmt := top 14
abbrev s__law_whole : Stmt := top 15
abbrev s__law_draw : Stmt := top 16
abbrev s__law_row : Stmt := top 17
abbrev s__law_numbers : Stmt := top 18
abbrev s__law_levels : Stmt := top 19
abbrev s__law_right : Stmt := top 20
abbrev s__law_deed : Stmt := top 21
abbrev s_law : Stmt := top 22
structure Txt (K : PySem.W.Frag) (mg : Str → Option Value) (C : Addr) : Prop where
  cl : Cls K C
  nK : NoAttr K C "kept"
  mgC : mg "Row" = some (.ref C)
  b_abs : mg "abs" = none
  b_bool : mg "bool" = none
  b_int : mg "int" = none
  b_isinstance : mg "isinstance" = none
  b_len : mg "len" = none
  b_list : mg "list" = none
  b_max : mg "max" = none
  b_min : mg "min" = none
  b_range : mg "range" = none
  b_reversed : mg "reversed" = none
  g_MOST : ∃ u, mg "MOST" = some u ∧ RelV (.int 40) u
section
variable {P : Program} {w : World} {K : PySem.W.Frag} {mg : Str → Option Value} {base : Heap} {C : Addr}
theorem sc_ask_sky : FnScope ["numbers", "number"] ["numbers"] (defScope s_ask_sky) := ⟨rfl, rfl, rfl, by decide +kernel, rfl, by decide +kernel, by decide +kernel⟩
def sp_ask_sky (K : PySem.W.Frag) (_ : Addr) : Sp := fun vs H Q _ => ∃ (a : Addr) (ns : List Int), vs = [.ref a] ∧ SqL K H a (ns.map V.int) ∧ (∀ x ∈ ns, 0 ≤ x) ∧ Q .non H
theorem ok_ask_sky {f : Addr} {fd : FuncData} (F : Fun K "ask_sky" "ask_sky" s_ask_sky f fd) (T : Txt K mg C)  : FnOk P w K mg base CX0 1 f fd ["numbers"] (sp_ask_sky K C) := by
  refine F.ok sc_ask_sky (fun vs H Q E h => ?_) (fun cdv A outer s H vs Q E hr h => ?_)
  · obtain ⟨a, ns, rfl, hS, hn, q⟩ := h
    rfl
  · obtain ⟨a, ns, rfl, hS, hn, q⟩ := h
    have hcl := T.cl
    have hnK := T.nK
    refine ⟨_, (pss_one (ps_for PassesOwn.never rfl (pi_list (pv 0)) (pg_name (i := 1) sc_ask_sky.nd rfl (by first | exact Or.inl rfl | exact Or.inr rfl)) (pss_one (ps_if (pt_cmpR op_lt (pv 1) pe_int (nomark _)) (pss_one ps_never) pss_nil)))), ?_⟩
    walk_at "go"
    refine r_loopI (ns := ns) (fun i σ H' => H' = H ∧ ∃ v, σ = [some (.ref a), v]) ⟨rfl, _, rfl⟩ (fun i σ H' _ hp => hp.1 ▸ hS) ?_ ?_
    · rintro i z σ H' hz ⟨rfl, v, rfl⟩
      have h0 := hn z (List.mem_of_getElem? hz)
      walk_at "go"
      refine brF (by omega) ?_
      walk_at "go"
      exact ⟨rfl, _, rfl⟩
    · rintro σ H' ⟨rfl, v, rfl⟩
      exact q
theorem sc_Row_numbers : FnScope ["self"] ["self"] (defScope s_Row_numbers) := ⟨rfl, rfl, rfl, by decide +kernel, rfl, by decide +kernel, by decide +kernel⟩
def sp_Row_numbers (_ : PySem.W.Frag) (C : Addr) : Sp := fun vs H Q _ => ∃ (p dx l : Addr) (ns : List Int), vs = [.ref p] ∧ H p = some (.ins C dx (rowF l)) ∧ H l = some (.lst (ns.map V.int)) ∧
  ∀ (a : Addr), H a = none → Q (.ref a) (upd H a (.lst (ns.map V.int)))
theorem ok_Row_numbers {f : Addr} {fd : FuncData} (F : Fun K "numbers" "Row.numbers" s_Row_numbers f fd) (T : Txt K mg C)  : FnOk P w K mg base CX0 1 f fd ["self"] (sp_Row_numbers K C) := by
  refine F.ok sc_Row_numbers (fun vs H Q E h => ?_) (fun cdv A outer s H vs Q E hr h => ?_)
  · obtain ⟨p, dx, l, ns, rfl, hp, hL, q⟩ := h
    rfl
  · obtain ⟨p, dx, l, ns, rfl, hp, hL, q⟩ := h
    have hcl := T.cl
    have hnK := T.nK
    refine ⟨_, (pss_one (ps_ret (pe_callTy c_listOf (by rfl) T.b_list (by decide +kernel) (pa_cons (pe_fld (pv 0) rfl) pa_nil)))), ?_⟩
    walk_at "go"
    refine r_listOf (VT.SqL.lst hL) fun a na => ?_
    exact q a na
theorem sc_water : FnScope ["row", "numbers", "found", "place", "high"] ["row"] (defScope s_water) := ⟨rfl, rfl, rfl, by decide +kernel, rfl, by decide +kernel, by decide +kernel⟩
def sp_water (_ : PySem.W.Frag) (C : Addr) : Sp := fun vs H Q _ => ∃ (p dx l : Addr) (ns : List Int), vs = [.ref p] ∧ H p = some (.ins C dx (rowF l)) ∧ H l = some (.lst (ns.map V.int)) ∧ ns.length ≤ 40 ∧ (∀ x ∈ ns, 0 ≤ x) ∧
  ∀ (t : Addr) (H' : Hp), Same H H' → H t = none → H' t = some (.lst ((wet ns).map V.int)) → Q (.ref t) H'
theorem ok_water {f : Addr} {fd : FuncData} (F : Fun K "water" "water" s_water f fd) (T : Txt K mg C) (c_ask_sky : C8.Cal P w K mg base 1 "ask_sky" (sp_ask_sky K C) []) (c_Row_numbers : C8.Met P w K mg base 1 C "numbers" (sp_Row_numbers K C) []) : FnOk P w K mg base CX0 2 f fd ["row"] (sp_water K C) := by
  refine F.ok sc_water (fun vs H Q E h => ?_) (fun cdv A outer s H vs Q E hr h => ?_)
  · obtain ⟨p, dx, l, ns, rfl, hp, hL, hn, hnn, q⟩ := h
    rfl
  · obtain ⟨p, dx, l, ns, rfl, hp, hL, hn, hnn, q⟩ := h
    have hcl := T.cl
    have hnK := T.nK
    refine ⟨_, (pss_cons (ps_set (i := 1) sc_water.nd rfl (by first | exact Or.inl rfl | exact Or.inr rfl) (C8.pe_mt0 c_Row_numbers hr (by decide) (pv 0)))
      (pss_cons (ps_expr (C8.pe_c c_ask_sky hr (by decide) rfl (pa_cons (pv 1) pa_nil)))
      (pss_cons (ps_set (i := 2) sc_water.nd rfl (by first | exact Or.inl rfl | exact Or.inr rfl) (pe_lst pa_nil))
      (pss_cons (ps_for PassesOwn.never rfl (pi_range1 (by rfl) T.b_range (pa_cons (pe_callB c_len (by rfl) T.b_len PySem.boot_len (pa_cons (pv 1) pa_nil)) pa_nil)) (pg_name (i := 3) sc_water.nd rfl (by first | exact Or.inl rfl | exact Or.inr rfl)) (pss_cons (ps_set (i := 4) sc_water.nd rfl (by first | exact Or.inl rfl | exact Or.inr rfl) (pe_callB (c_min2 rfl) (by rfl) T.b_min (by decide +kernel) (pa_cons (pe_callB (cr_max rfl) (by rfl) T.b_max (by decide +kernel) (pa_cons (pe_slice sl_list (pv 1) po_none (po_some (pe_op op_add (pv 3) pe_int))) pa_nil)) (pa_cons (pe_callB (cr_max rfl) (by rfl) T.b_max (by decide +kernel) (pa_cons (pe_slice sl_list (pv 1) (po_some (pv 3)) po_none) pa_nil)) pa_nil))))
      (pss_one (ps_expr (pe_bm PySem.F.plainAttrs_list PySem.F.slot_list_append PySem.F.type_list_append mt_append (pv 2) (pa_cons (pe_op op_sub (pv 4) (pe_ix ix_list (pv 1) (pv 3) (fun _ _ => rfl))) pa_nil))))))
      (pss_one (ps_ret (pv 2))))))), ?_⟩
    walk_at "go"
    refine ⟨p, dx, l, ns, rfl, hp, hL, fun n nn => ?_⟩
    have sA := same_new nn (.lst (ns.map V.int))
    have hN := @upd_same H n (.lst (ns.map V.int))
    generalize upd H n (.lst (ns.map V.int)) = H0 at sA hN
    walk_at "go"
    refine ⟨n, ns, rfl, VT.SqL.lst hN, hnn, ?_⟩
    walk_at "go"
    intro f nf
    have sB := same_new nf (.lst [])
    have hF := @upd_same H0 f (.lst [])
    have hN1 := sB _ _ hN
    have s0 := sA.trans sB
    have fr := sA.free nf
    generalize upd H0 f (.lst []) = H1 at hF hN1 s0
    walk_at "go"
    refine r_loop0 (fun i σ H' => ∃ v1 v2, σ = [some (.ref p), some (.ref n), some (.ref f), v1, v2] ∧ Same H H' ∧ H' n = some (.lst (ns.map V.int)) ∧ H' f = some (.lst ((wetTo ns i).map V.int))) ⟨_, _, rfl, s0, hN1, hF⟩ ?_ ?_
    · rintro i σ H2 hi' ⟨v1, v2, rfl, s2, hN2, hF2⟩
      have hil : i < ns.length := by omega
      have hI : (ns.map V.int)[i]? = some (.int (ns.getD i 0)) := by
        rw [List.getElem?_map, getD_at' hil] <;> rfl
      walk_at "go"
      refine r_slL (VT.SqL.lst hN2) fun a na => ?_
      rw [cut_takeI (by omega) (by omega), show ((i : Int) + 1).toNat = i + 1 by omega]
      have sC := same_new na (.lst ((ns.take (i + 1)).map V.int))
      have hA := @upd_same H2 a (.lst ((ns.take (i + 1)).map V.int))
      have hN3 := sC _ _ hN2
      have hF3 := sC _ _ hF2
      have s3 := s2.trans sC
      generalize upd H2 a (.lst ((ns.take (i + 1)).map V.int)) = H3 at hA hN3 hF3 s3
      walk_at "go"
      refine r_max (VT.SqL.lst hA) (by rw [List.length_take]; omega) fun m hm hle => ?_
      have em := hgt_eq (fun x hx => hnn x (List.mem_of_mem_take hx)) hm hle
      subst em
      walk_at "go"
      refine r_slL (VT.SqL.lst hN3) fun b nb => ?_
      rw [cut_dropI (by omega) (by omega), show (i : Int).toNat = i by omega]
      have sD := same_new nb (.lst ((ns.drop i).map V.int))
      have hB := @upd_same H3 b (.lst ((ns.drop i).map V.int))
      have hN4 := sD _ _ hN3
      have hF4 := sD _ _ hF3
      have s4 := s3.trans sD
      generalize upd H3 b (.lst ((ns.drop i).map V.int)) = H4 at hB hN4 hF4 s4
      walk_at "go"
      refine r_max (VT.SqL.lst hB) (by rw [List.length_drop]; omega) fun m hm hle => ?_
      have em := hgt_eq (fun x hx => hnn x (List.mem_of_mem_drop hx)) hm hle
      subst em
      walk_at "go"
      refine r_min2 ?_
      have e : (if hgt (ns.drop i) < hgt (ns.take (i + 1)) then hgt (ns.drop i) else hgt (ns.take (i + 1))) = lvl ns i := rfl
      rw [e]
      have hwl := wetTo_len ns i
      walk_at "go"
      rw [snoc_int, ← wetTo_more]
      exact ⟨_, _, rfl, same_mut s4 fr, up_get (fun z => by rw [z] at hN; exact absurd (hN.symm.trans nf) (by intro h; cases h)) hN4, upd_same⟩
    · rintro σ H2 ⟨v1, v2, rfl, s2, hN2, hF2⟩
      rw [show (ns.length : Int).toNat = ns.length by omega] at hF2
      walk_at "go"
      exact q f H2 s2 fr hF2
theorem sc_Row___init__ : FnScope ["self", "numbers"] ["self", "numbers"] (defScope s_Row___init__) := ⟨rfl, rfl, rfl, by decide +kernel, rfl, by decide +kernel, by decide +kernel⟩
def sp_Row___init__ (K : PySem.W.Frag) (C : Addr) : Sp := fun vs H Q _ => ∃ (p dx a : Addr) (ns : List Int), vs = [.ref p, .ref a] ∧ H p = some (.ins C dx []) ∧ SqL K H a (ns.map V.int) ∧ ns.length ≤ 40 ∧
  ∀ (l : Addr) (H' : Hp), H l = none → But p H H' → H' p = some (.ins C dx (rowF l)) → H' l = some (.lst (ns.map V.int)) → Q .non H'
theorem ok_Row___init__ {f : Addr} {fd : FuncData} (F : Fun K "__init__" "Row.__init__" s_Row___init__ f fd) (T : Txt K mg C)  : FnOk P w K mg base CX0 1 f fd ["self", "numbers"] (sp_Row___init__ K C) := by
  refine F.ok sc_Row___init__ (fun vs H Q E h => ?_) (fun cdv A outer s H vs Q E hr h => ?_)
  · obtain ⟨p, dx, a, ns, rfl, hp, hS, hl, q⟩ := h
    rfl
  · obtain ⟨p, dx, a, ns, rfl, hp, hS, hl, q⟩ := h
    have hcl := T.cl
    have hnK := T.nK
    refine ⟨_, (pss_cons (ps_if (pt_cmpR op_gt (pe_callB c_len (by rfl) T.b_len PySem.boot_len (pa_cons (pv 1) pa_nil)) (C8.pe_gc (v := .int 40) (by rfl) T.g_MOST) (nomark _)) (pss_one ps_never) pss_nil)
      (pss_one (ps_fld (pv 0) (pe_callTy c_listOf (by rfl) T.b_list (by decide +kernel) (pa_cons (pv 1) pa_nil)) rfl))), ?_⟩
    walk_at "go"
    try rw [List.length_map]
    refine brF (by omega) ?_
    walk_at "go"
    refine r_listOf hS fun l nl => ?_
    walk_at "go"
    have npl : p ≠ l := ne_of_none hp nl
    refine ⟨p, C, dx, [], rfl, up_get npl hp, T.cl, T.nK, (by show 0 < 1000; decide), ?_⟩
    exact q l _ nl (But.of (same_new nl _)).up upd_same (up_get npl.symm upd_same)
/-- Row(..) of a readable list of numbers -/
theorem mk_row {K : PySem.W.Frag} {C a : Addr} {ns : List Int} {H : Hp} {N : Addr → Hp → Prop} {E : XK} (hS : SqL K H a (ns.map V.int)) (hl : ns.length ≤ 40)
    (q : ∀ (x l d : Addr) (H' : Hp), Same H H' → H x = none → H l = none → x ≠ l → H' x = some (.ins C d (rowF l)) → H' l = some (.lst (ns.map V.int)) → N x H') :
    ∀ x dx, H x = none → H dx = none → dx ≠ x → sp_Row___init__ K C (.ref x :: ([.ref a] ++ [])) (upd (upd H dx (.own x)) x (.ins C dx [])) (fun v H2 => v = .non ∧ N x H2) E := by
  intro x dx nx ndx nex
  have s0 : Same H (upd (upd H dx (.own x)) x (.ins C dx [])) := fun b o e => by
    rw [upd_ne (ne_of_none e nx), upd_ne (ne_of_none e ndx)]
    exact e
  refine ⟨x, dx, a, ns, rfl, upd_same, s0.seq hS, hl, fun l H' nl b hx hL => ⟨rfl, ?_⟩⟩
  exact q x l dx H' (same_made nx ndx b) nx (s0.free nl) (ne_of_none upd_same nl) hx hL
theorem sc_Row_ask : FnScope ["self", "place", "many"] ["self", "place", "many"] (defScope s_Row_ask) := ⟨rfl, rfl, rfl, by decide +kernel, rfl, by decide +kernel, by decide +kernel⟩
def sp_Row_ask (_ : PySem.W.Frag) (_ : Addr) : Sp := fun vs H Q _ => ∃ (x : V) (i m : Int), vs = [x, .int i, .int m] ∧ 0 ≤ i ∧ i < m ∧ Q .non H
theorem ok_Row_ask {f : Addr} {fd : FuncData} (F : Fun K "ask" "Row.ask" s_Row_ask f fd) (T : Txt K mg C)  : FnOk P w K mg base CX0 1 f fd ["self", "place", "many"] (sp_Row_ask K C) := by
  refine F.ok sc_Row_ask (fun vs H Q E h => ?_) (fun cdv A outer s H vs Q E hr h => ?_)
  · obtain ⟨x, i, m, rfl, h0, h1, q⟩ := h
    rfl
  · obtain ⟨x, i, m, rfl, h0, h1, q⟩ := h
    have hcl := T.cl
    have hnK := T.nK
    refine ⟨_, (pss_one (ps_if (pt_not (pt_chain op_le op_lt pe_int (pv 1) (pv 2))) (pss_one ps_never) pss_nil)), ?_⟩
    walk_at "go"
    refine brT (by omega) ?_
    walk_at "go"
    rw [decide_eq_true h1]
    refine iteF ?_
    walk_at "go"
    exact q
theorem sc_Row_ask_stretch : FnScope ["self", "first", "behind"] ["self", "first", "behind"] (defScope s_Row_ask_stretch) := ⟨rfl, rfl, rfl, by decide +kernel, rfl, by decide +kernel, by decide +kernel⟩
def sp_Row_ask_stretch (_ : PySem.W.Frag) (C : Addr) : Sp := fun vs H Q _ => ∃ (p dx l : Addr) (ns : List Int) (i j : Int), vs = [.ref p, .int i, .int j] ∧ H p = some (.ins C dx (rowF l)) ∧ H l = some (.lst (ns.map V.int)) ∧ 0 ≤ i ∧ i < j ∧ j ≤ (ns.length : Int) ∧ Q .non H
theorem ok_Row_ask_stretch {f : Addr} {fd : FuncData} (F : Fun K "ask_stretch" "Row.ask_stretch" s_Row_ask_stretch f fd) (T : Txt K mg C)  : FnOk P w K mg base CX0 1 f fd ["self", "first", "behind"] (sp_Row_ask_stretch K C) := by
  refine F.ok sc_Row_ask_stretch (fun vs H Q E h => ?_) (fun cdv A outer s H vs Q E hr h => ?_)
  · obtain ⟨p, dx, l, ns, i, j, rfl, hp, hL, h0, h1, h2, q⟩ := h
    rfl
  · obtain ⟨p, dx, l, ns, i, j, rfl, hp, hL, h0, h1, h2, q⟩ := h
    have hcl := T.cl
    have hnK := T.nK
    refine ⟨_, (pss_one (ps_if (pt_not (pt_chain3 op_le op_lt op_le pe_int (pv 1) (pv 2) (pe_callB c_len (by rfl) T.b_len PySem.boot_len (pa_cons (pe_fld (pv 0) rfl) pa_nil)))) (pss_one ps_never) pss_nil)), ?_⟩
    walk_at "go"
    refine brT (by omega) ?_
    walk_at "go"
    refine brT (by omega) ?_
    walk_at "go"
    rw [decide_eq_true h2]
    refine iteF ?_
    walk_at "go"
    exact q
theorem ix_nat {n : Nat} {i : Int} (h0 : 0 ≤ i) (h1 : i < (n : Int)) : ixN n i = some i.toNat := by
  unfold ixN
  rw [if_pos h0, if_pos h1]
theorem map_set (ns : List Int) (j : Nat) (z : Int) : (ns.map V.int).set j (.int z) = (ns.set j z).map V.int := by
  rw [List.map_set]
theorem r_setL {o : Addr} {i z : Int} {ns : List Int} {H : Hp} {Q : Hp → Prop} (h : H o = some (.lst (ns.map V.int))) (h0 : 0 ≤ i) (h1 : i < (ns.length : Int)) (q : Q (upd H o (.lst ((ns.set i.toNat z).map V.int)))) : rSetL (.ref o) (.int i) (.int z) H Q := by
  refine ⟨o, ns.map V.int, i, i.toNat, rfl, rfl, h, ?_, ?_⟩
  · rw [List.length_map]
    exact ix_nat h0 h1
  · rw [map_set]
    exact q
theorem sc_Row_set_at : FnScope ["self", "place", "number"] ["self", "place", "number"] (defScope s_Row_set_at) := ⟨rfl, rfl, rfl, by decide +kernel, rfl, by decide +kernel, by decide +kernel⟩
def sp_Row_set_at (_ : PySem.W.Frag) (C : Addr) : Sp := fun vs H Q _ => ∃ (p dx l : Addr) (ns : List Int) (i z : Int), vs = [.ref p, .int i, .int z] ∧ H p = some (.ins C dx (rowF l)) ∧ H l = some (.lst (ns.map V.int)) ∧ 0 ≤ i ∧ i < (ns.length : Int) ∧
  Q .non (upd H l (.lst ((ns.set i.toNat z).map V.int)))
theorem ok_Row_set_at {f : Addr} {fd : FuncData} (F : Fun K "set_at" "Row.set_at" s_Row_set_at f fd) (T : Txt K mg C) (c_Row_ask : C8.Met P w K mg base 1 C "ask" (sp_Row_ask K C) []) : FnOk P w K mg base CX0 2 f fd ["self", "place", "number"] (sp_Row_set_at K C) := by
  refine F.ok sc_Row_set_at (fun vs H Q E h => ?_) (fun cdv A outer s H vs Q E hr h => ?_)
  · obtain ⟨p, dx, l, ns, i, z, rfl, hp, hL, h0, h1, q⟩ := h
    rfl
  · obtain ⟨p, dx, l, ns, i, z, rfl, hp, hL, h0, h1, q⟩ := h
    have hcl := T.cl
    have hnK := T.nK
    refine ⟨_, (pss_cons (ps_expr (C8.pe_mt c_Row_ask hr (by decide) (pv 0) (pa_cons (pv 1) (pa_cons (pe_callB c_len (by rfl) T.b_len PySem.boot_len (pa_cons (pe_fld (pv 0) rfl) pa_nil)) pa_nil))))
      (pss_one (ps_asg (pv 2) (pg_sub (pe_fld (pv 0) rfl) (pv 1) set_list)))), ?_⟩
    walk_at "go"
    refine ⟨_, _, _, rfl, h0, h1, ?_⟩
    walk_at "go"
    exact r_setL hL h0 h1 q
theorem sc_Row_take_out : FnScope ["self", "place"] ["self", "place"] (defScope s_Row_take_out) := ⟨rfl, rfl, rfl, by decide +kernel, rfl, by decide +kernel, by decide +kernel⟩
def sp_Row_take_out (_ : PySem.W.Frag) (C : Addr) : Sp := fun vs H Q _ => ∃ (p dx l : Addr) (ns : List Int) (i z : Int), vs = [.ref p, .int i] ∧ H p = some (.ins C dx (rowF l)) ∧ H l = some (.lst (ns.map V.int)) ∧ ns.length ≤ 100 ∧ 0 ≤ i ∧ ns[i.toNat]? = some z ∧
  Q (.int z) (upd H l (.lst ((ns.eraseIdx i.toNat).map V.int)))
theorem ok_Row_take_out {f : Addr} {fd : FuncData} (F : Fun K "take_out" "Row.take_out" s_Row_take_out f fd) (T : Txt K mg C) (c_Row_ask : C8.Met P w K mg base 1 C "ask" (sp_Row_ask K C) []) : FnOk P w K mg base CX0 2 f fd ["self", "place"] (sp_Row_take_out K C) := by
  refine F.ok sc_Row_take_out (fun vs H Q E h => ?_) (fun cdv A outer s H vs Q E hr h => ?_)
  · obtain ⟨p, dx, l, ns, i, z, rfl, hp, hL, h3, h0, h1, q⟩ := h
    rfl
  · obtain ⟨p, dx, l, ns, i, z, rfl, hp, hL, h3, h0, h1, q⟩ := h
    have hcl := T.cl
    have hnK := T.nK
    refine ⟨_, (pss_cons (ps_expr (C8.pe_mt c_Row_ask hr (by decide) (pv 0) (pa_cons (pv 1) (pa_cons (pe_callB c_len (by rfl) T.b_len PySem.boot_len (pa_cons (pe_fld (pv 0) rfl) pa_nil)) pa_nil))))
      (pss_one (ps_ret (pe_bm PySem.F.plainAttrs_list PySem.F.slot_list_pop PySem.F.type_list_pop mt_popAt (pe_fld (pv 0) rfl) (pa_cons (pv 1) pa_nil))))), ?_⟩
    have hi : i.toNat < ns.length := (List.getElem?_eq_some_iff.mp h1).1
    walk_at "go"
    refine ⟨_, _, _, rfl, h0, (by omega), ?_⟩
    walk_at "go"
    refine r_popAt hL h0 (by omega) h1 ?_
    exact q
theorem sc_Row_put_in : FnScope ["self", "place", "number"] ["self", "place", "number"] (defScope s_Row_put_in) := ⟨rfl, rfl, rfl, by decide +kernel, rfl, by decide +kernel, by decide +kernel⟩
def sp_Row_put_in (_ : PySem.W.Frag) (C : Addr) : Sp := fun vs H Q _ => ∃ (p dx l : Addr) (ns : List Int) (i z : Int), vs = [.ref p, .int i, .int z] ∧ H p = some (.ins C dx (rowF l)) ∧ H l = some (.lst (ns.map V.int)) ∧ ns.length < 40 ∧ 0 ≤ i ∧ i ≤ (ns.length : Int) ∧
  Q .non (upd H l (.lst ((ns.take i.toNat ++ [z] ++ ns.drop i.toNat).map V.int)))
theorem ok_Row_put_in {f : Addr} {fd : FuncData} (F : Fun K "put_in" "Row.put_in" s_Row_put_in f fd) (T : Txt K mg C) (c_Row_ask : C8.Met P w K mg base 1 C "ask" (sp_Row_ask K C) []) : FnOk P w K mg base CX0 2 f fd ["self", "place", "number"] (sp_Row_put_in K C) := by
  refine F.ok sc_Row_put_in (fun vs H Q E h => ?_) (fun cdv A outer s H vs Q E hr h => ?_)
  · obtain ⟨p, dx, l, ns, i, z, rfl, hp, hL, h2, h0, h1, q⟩ := h
    rfl
  · obtain ⟨p, dx, l, ns, i, z, rfl, hp, hL, h2, h0, h1, q⟩ := h
    have hcl := T.cl
    have hnK := T.nK
    refine ⟨_, (pss_cons (ps_if (pt_cmpR op_eq (pe_callB c_len (by rfl) T.b_len PySem.boot_len (pa_cons (pe_fld (pv 0) rfl) pa_nil)) (C8.pe_gc (v := .int 40) (by rfl) T.g_MOST) (nomark _)) (pss_one ps_never) pss_nil)
      (pss_cons (ps_expr (C8.pe_mt c_Row_ask hr (by decide) (pv 0) (pa_cons (pv 1) (pa_cons (pe_op op_add (pe_callB c_len (by rfl) T.b_len PySem.boot_len (pa_cons (pe_fld (pv 0) rfl) pa_nil)) pe_int) pa_nil))))
      (pss_one (ps_expr (pe_bm PySem.F.plainAttrs_list PySem.F.slot_list_insert PySem.F.type_list_insert m_insert (pe_fld (pv 0) rfl) (pa_cons (pv 1) (pa_cons (pv 2) pa_nil))))))), ?_⟩
    walk_at "go"
    try rw [List.length_map]
    refine brF (by omega) ?_
    walk_at "go"
    refine ⟨_, _, _, rfl, h0, (by omega), ?_⟩
    walk_at "go"
    refine r_ins hL (by rw [List.length_map]; omega) h0 (by omega) ?_
    rw [← List.map_take, ← List.map_drop, snoc_int, ← List.map_append]
    exact q
/-- a number added to all of a stretch, the first k of it done -/
def addTo (ns : List Int) (i k : Nat) (z : Int) : List Int := match k with
  | 0 => ns
  | k + 1 => (addTo ns i k z).set (i + k) ((addTo ns i k z).getD (i + k) 0 + z)
theorem addTo_len (ns : List Int) (i k : Nat) (z : Int) : (addTo ns i k z).length = ns.length := by
  induction k with
  | zero => rfl
  | succ k ih =>
    show (List.set _ _ _).length = _
    rw [List.length_set, ih]
theorem getD_at {ns : List Int} {k : Nat} (h : k < ns.length) : ns[k]? = some (ns.getD k 0) := by
  rw [List.getD_eq_getElem?_getD, List.getElem?_eq_getElem h]
  rfl
theorem sc_Row_add_to : FnScope ["self", "first", "behind", "number", "place"] ["self", "first", "behind", "number"] (defScope s_Row_add_to) := ⟨rfl, rfl, rfl, by decide +kernel, rfl, by decide +kernel, by decide +kernel⟩
def sp_Row_add_to (_ : PySem.W.Frag) (C : Addr) : Sp := fun vs H Q _ => ∃ (p dx l : Addr) (ns : List Int) (i j z : Int), vs = [.ref p, .int i, .int j, .int z] ∧ H p = some (.ins C dx (rowF l)) ∧ H l = some (.lst (ns.map V.int)) ∧ ns.length ≤ 100 ∧ p ≠ l ∧ 0 ≤ i ∧ i < j ∧ j ≤ (ns.length : Int) ∧
  ∀ H', But l H H' → H' l = some (.lst ((addTo ns i.toNat (j - i).toNat z).map V.int)) → Q .non H'
theorem ok_Row_add_to {f : Addr} {fd : FuncData} (F : Fun K "add_to" "Row.add_to" s_Row_add_to f fd) (T : Txt K mg C) (c_Row_ask_stretch : C8.Met P w K mg base 1 C "ask_stretch" (sp_Row_ask_stretch K C) []) : FnOk P w K mg base CX0 2 f fd ["self", "first", "behind", "number"] (sp_Row_add_to K C) := by
  refine F.ok sc_Row_add_to (fun vs H Q E h => ?_) (fun cdv A outer s H vs Q E hr h => ?_)
  · obtain ⟨p, dx, l, ns, i, j, z, rfl, hp, hL, h3, npl, h0, h1, h2, q⟩ := h
    rfl
  · obtain ⟨p, dx, l, ns, i, j, z, rfl, hp, hL, h3, npl, h0, h1, h2, q⟩ := h
    have hcl := T.cl
    have hnK := T.nK
    refine ⟨_, (pss_cons (ps_expr (C8.pe_mt c_Row_ask_stretch hr (by decide) (pv 0) (pa_cons (pv 1) (pa_cons (pv 2) pa_nil))))
      (pss_one (ps_for PassesOwn.never rfl (pi_range2 (by rfl) T.b_range (pa_cons (pv 1) (pa_cons (pv 2) pa_nil))) (pg_name (i := 4) sc_Row_add_to.nd rfl (by first | exact Or.inl rfl | exact Or.inr rfl)) (pss_one (ps_asg (pe_op op_add (pe_ix ix_list (pe_fld (pv 0) rfl) (pv 4) (fun _ _ => rfl)) (pv 3)) (pg_sub (pe_fld (pv 0) rfl) (pv 4) set_list)))))), ?_⟩
    walk_at "go"
    refine ⟨p, dx, l, ns, i, j, rfl, hp, hL, h0, h1, h2, ?_⟩
    walk_at "go"
    refine r_loopR (fun k σ H' => ∃ v, σ = [some (.ref p), some (.int i), some (.int j), some (.int z), v] ∧ But l H H' ∧ H' l = some (.lst ((addTo ns i.toNat k z).map V.int))) ?_ ?_ ?_
    · exact ⟨_, rfl, But.of (Same.refl _), hL⟩
    · rintro k σ H' hk ⟨v, rfl, b1, hL'⟩
      have hp' : H' p = some (.ins C dx (rowF l)) := b1 _ _ hp npl
      have hlen := addTo_len ns i.toNat k z
      have ek : (i + (k : Int)).toNat = i.toNat + k := by omega
      have hx : ((addTo ns i.toNat k z).map V.int)[(i + (k : Int)).toNat]? = some (.int ((addTo ns i.toNat k z).getD (i.toNat + k) 0)) := by
        rw [List.getElem?_map, ek, getD_at (by omega)] <;> rfl
      walk_at "go"
      refine r_ixL (VT.SqL.lst hL') (r_at (by omega) hx) ?_
      walk_at "go"
      refine r_setL hL' (by omega) (by omega) ?_
      refine ⟨_, rfl, b1.up, ?_⟩
      rw [upd_same, ek] <;> rfl
    · rintro σ H' ⟨v, rfl, b1, hL'⟩
      exact q H' b1 hL'
theorem cell_at {ns : List Int} {k : Int} (h0 : 0 ≤ k) (h : k < (ns.length : Int)) : atI (ns.map V.int) k = some (.int (ns.getD k.toNat 0)) := by
  have hk : k.toNat < ns.length := by omega
  refine r_at (j := k.toNat) (by omega) ?_
  rw [List.getElem?_map, List.getD_eq_getElem?_getD, List.getElem?_eq_getElem hk]
  rfl
theorem cell_no {ns : List Int} {k : Int} (h : ¬ k < (ns.length : Int)) : ns.getD k.toNat 0 = 0 := by
  rw [List.getD_eq_getElem?_getD, List.getElem?_eq_none (by omega)]
  rfl
theorem sc__law_cell_at : FnScope ["script", "k"] ["script", "k"] (defScope s__law_cell_at) := ⟨rfl, rfl, rfl, by decide +kernel, rfl, by decide +kernel, by decide +kernel⟩
def sp__law_cell_at (K : PySem.W.Frag) (_ : Addr) : Sp := fun vs H Q _ => ∃ (a : Addr) (ns : List Int) (k : Int), vs = [.ref a, .int k] ∧ SqL K H a (ns.map V.int) ∧ 0 ≤ k ∧ Q (.int (ns.getD k.toNat 0)) H
theorem ok__law_cell_at {f : Addr} {fd : FuncData} (F : Fun K "_law_cell_at" "_law_cell_at" s__law_cell_at f fd) (T : Txt K mg C)  : FnOk P w K mg base CX0 1 f fd ["script", "k"] (sp__law_cell_at K C) := by
  refine F.ok sc__law_cell_at (fun vs H Q E h => ?_) (fun cdv A outer s H vs Q E hr h => ?_)
  · obtain ⟨a, ns, k, rfl, hS, h0, q⟩ := h
    rfl
  · obtain ⟨a, ns, k, rfl, hS, h0, q⟩ := h
    have hcl := T.cl
    have hnK := T.nK
    refine ⟨_, (pss_cons (ps_if (pt_cmpR op_lt (pv 1) (pe_callB c_len (by rfl) T.b_len PySem.boot_len (pa_cons (pv 0) pa_nil)) (nomark _)) (pss_one (ps_ret (pe_ix ix_list (pv 0) (pv 1) (fun _ _ => rfl)))) pss_nil)
      (pss_one (ps_ret pe_int))), ?_⟩
    walk_at "go"
    try rw [List.length_map]
    refine brD (fun c => ?_) (fun c => ?_)
    · have c2 := cell_at h0 c
      walk_at "go"
      exact q
    · rw [cell_no c] at q
      walk_at "go"
      exact q
theorem sc__law_whole : FnScope ["found"] ["found"] (defScope s__law_whole) := ⟨rfl, rfl, rfl, by decide +kernel, rfl, by decide +kernel, by decide +kernel⟩
def sp__law_whole (_ : PySem.W.Frag) (_ : Addr) : Sp := fun vs H Q _ => ∃ (i : Int), vs = [.int i] ∧ Q (.bl true) H
theorem ok__law_whole {f : Addr} {fd : FuncData} (F : Fun K "_law_whole" "_law_whole" s__law_whole f fd) (T : Txt K mg C)  : FnOk P w K mg base CX0 1 f fd ["found"] (sp__law_whole K C) := by
  refine F.ok sc__law_whole (fun vs H Q E h => ?_) (fun cdv A outer s H vs Q E hr h => ?_)
  · obtain ⟨i, rfl, q⟩ := h
    rfl
  · obtain ⟨i, rfl, q⟩ := h
    have hcl := T.cl
    have hnK := T.nK
    refine ⟨_, (pss_one (ps_ret (pe_and (pe_callB call_isi (by rfl) T.b_isinstance (by decide +kernel) (pa_cons (pv 0) (pa_cons (pe_bltn (v := .ty "int") (by rfl) T.b_int (by decide +kernel) rfl) pa_nil))) (pe_one (pe_not (pe_callB call_isi (by rfl) T.b_isinstance (by decide +kernel) (pa_cons (pv 0) (pa_cons (pe_bltn (v := .ty "bool") (by rfl) T.b_bool (by decide +kernel) rfl) pa_nil)))))))), ?_⟩
    walk_at "go"
    refine r_isiT (.base (.int i)) (by decide +kernel) ?_
    walk_at "go"
    refine iteT ?_
    walk_at "go"
    refine r_isiF (.base (.int i)) (by decide +kernel) ?_
    walk_at "go"
    exact q
theorem sc__law_draw : FnScope ["cell", "k", "bound", "one", "two"] ["cell", "k", "bound"] (defScope s__law_draw) := ⟨rfl, rfl, rfl, by decide +kernel, rfl, by decide +kernel, by decide +kernel⟩
def sp__law_draw (_ : PySem.W.Frag) (_ : Addr) : Sp := fun vs H Q _ => ∃ (c k b : Int), vs = [.int c, .int k, .int b] ∧ 0 ≤ k ∧ k ≤ 1000 ∧ 0 < b ∧ b ≤ 10000000 ∧ ∀ r : Int, 0 ≤ r → r < b → Q (.int r) H
theorem ok__law_draw {f : Addr} {fd : FuncData} (F : Fun K "_law_draw" "_law_draw" s__law_draw f fd) (T : Txt K mg C)  : FnOk P w K mg base CX0 1 f fd ["cell", "k", "bound"] (sp__law_draw K C) := by
  refine F.ok sc__law_draw (fun vs H Q E h => ?_) (fun cdv A outer s H vs Q E hr h => ?_)
  · obtain ⟨c, k, b, rfl, h0, h1, h2, h3, q⟩ := h
    rfl
  · obtain ⟨c, k, b, rfl, h0, h1, h2, h3, q⟩ := h
    have hcl := T.cl
    have hnK := T.nK
    refine ⟨_, (pss_cons (ps_set (i := 3) sc__law_draw.nd rfl (by first | exact Or.inl rfl | exact Or.inr rfl) (pe_op op_mod (pe_op op_add (pe_op op_add (pe_op op_mul (pe_op op_mod (pv 0) pe_int) pe_int) (pe_op op_mul (pv 1) pe_int)) pe_int) pe_int))
      (pss_cons (ps_set (i := 4) sc__law_draw.nd rfl (by first | exact Or.inl rfl | exact Or.inr rfl) (pe_op op_mod (pe_op op_mul (pe_op op_add (pe_op op_mod (pv 0) pe_int) pe_int) (pe_op op_add (pe_op op_add (pe_op op_mul (pv 1) (pv 1)) (pe_op op_mul pe_int (pv 1))) pe_int)) pe_int))
      (pss_one (ps_ret (pe_op op_mod (pe_op op_fdiv (pe_op op_mul (pv 3) (pe_op op_add (pv 4) pe_int)) pe_int) (pv 2)))))), ?_⟩
    have ek : (-1000 ≤ k * k ∧ k * k ≤ 1000000) := ⟨Int.le_trans (by decide) (Int.mul_nonneg h0 h0), Int.le_trans (Int.mul_le_mul h1 h1 h0 (by decide)) (by decide)⟩
    walk_at "go"
    have e1 := Int.emod_nonneg c (show (1000003 : Int) ≠ 0 by decide)
    have e2 := Int.emod_lt_of_pos c (show (0 : Int) < 1000003 by decide)
    walk_at "go"
    exact q _ (Int.emod_nonneg _ (by omega)) (Int.emod_lt_of_pos _ (by omega))
/-- numbers that a row of the law's may have -/
def Mid (ns : List Int) : Prop := ∀ x ∈ ns, x.natAbs < 2 ^ 200
theorem Mid.nil : Mid [] := fun _ h => by cases h
theorem Mid.snoc {ns : List Int} {x : Int} (h : Mid ns) (hx : x.natAbs < 2 ^ 200) : Mid (ns ++ [x]) := fun y hy => by
  rcases List.mem_append.mp hy with e | e
  · exact h y e
  · rw [List.mem_singleton.mp e]
    exact hx
theorem sc__law_row : FnScope ["script", "at", "most", "size", "kind", "found", "k", "cell"] ["script", "at", "most"] (defScope s__law_row) := ⟨rfl, rfl, rfl, by decide +kernel, rfl, by decide +kernel, by decide +kernel⟩
def sp__law_row (K : PySem.W.Frag) (_ : Addr) : Sp := fun vs H Q _ => ∃ (a : Addr) (ns : List Int) (at' m : Int), vs = [.ref a, .int at', .int m] ∧ SqL K H a (ns.map V.int) ∧ 0 ≤ at' ∧ at' ≤ 100 ∧ 0 ≤ m ∧ m ≤ 60 ∧
  ∀ (p : Addr) (ms : List Int) (H' : Hp), H p = none → Same H H' → H' p = some (.lst (ms.map V.int)) → (ms.length : Int) ≤ m → Mid ms → Q (.ref p) H'
theorem ok__law_row {f : Addr} {fd : FuncData} (F : Fun K "_law_row" "_law_row" s__law_row f fd) (T : Txt K mg C) (c__law_draw : C8.Cal P w K mg base 1 "_law_draw" (sp__law_draw K C) []) (c__law_cell_at : C8.Cal P w K mg base 1 "_law_cell_at" (sp__law_cell_at K C) []) : FnOk P w K mg base CX0 2 f fd ["script", "at", "most"] (sp__law_row K C) := by
  refine F.ok sc__law_row (fun vs H Q E h => ?_) (fun cdv A outer s H vs Q E hr h => ?_)
  · obtain ⟨a, ns, at', m, rfl, hS, h0, h1, h2, h3, q⟩ := h
    rfl
  · obtain ⟨a, ns, at', m, rfl, hS, h0, h1, h2, h3, q⟩ := h
    have hcl := T.cl
    have hnK := T.nK
    refine ⟨_, (pss_cons (ps_set (i := 3) sc__law_row.nd rfl (by first | exact Or.inl rfl | exact Or.inr rfl) (pe_op op_mod (C8.pe_c c__law_cell_at hr (by decide) rfl (pa_cons (pv 0) (pa_cons (pv 1) pa_nil))) (pe_op op_add (pv 2) pe_int)))
      (pss_cons (ps_set (i := 4) sc__law_row.nd rfl (by first | exact Or.inl rfl | exact Or.inr rfl) (pe_op op_mod (pe_op op_fdiv (C8.pe_c c__law_cell_at hr (by decide) rfl (pa_cons (pv 0) (pa_cons (pv 1) pa_nil))) (pe_op op_add (pv 2) pe_int)) pe_int))
      (pss_cons (ps_set (i := 5) sc__law_row.nd rfl (by first | exact Or.inl rfl | exact Or.inr rfl) (pe_lst pa_nil))
      (pss_cons (ps_for PassesOwn.never rfl (pi_range1 (by rfl) T.b_range (pa_cons (pv 3) pa_nil)) (pg_name (i := 6) sc__law_row.nd rfl (by first | exact Or.inl rfl | exact Or.inr rfl)) (pss_cons (ps_set (i := 7) sc__law_row.nd rfl (by first | exact Or.inl rfl | exact Or.inr rfl) (C8.pe_c c__law_cell_at hr (by decide) rfl (pa_cons (pv 0) (pa_cons (pe_op op_add (pe_op op_add (pv 1) pe_int) (pv 6)) pa_nil))))
      (C8.pss_cut (ps_if (pt_cmpR op_ge (pe_op op_add (pe_op op_add (pv 1) pe_int) (pv 6)) (pe_callB c_len (by rfl) T.b_len PySem.boot_len (pa_cons (pv 0) pa_nil)) (nomark _)) (pss_one (ps_set (i := 7) sc__law_row.nd rfl (by first | exact Or.inl rfl | exact Or.inr rfl) (C8.pe_c c__law_draw hr (by decide) rfl (pa_cons (C8.pe_c c__law_cell_at hr (by decide) rfl (pa_cons (pv 0) (pa_cons (pv 1) pa_nil))) (pa_cons (pv 6) (pa_cons pe_int pa_nil)))))) pss_nil)
      (pss_one (ps_expr (pe_bm PySem.F.plainAttrs_list PySem.F.slot_list_append PySem.F.type_list_append mt_append (pv 5) (pa_cons (pe_ix ix_list (pe_lst (pa_cons (pe_op op_mod (pv 7) pe_int) (pa_cons (pe_op op_sub (pe_op op_mod (pv 7) pe_int) pe_int) (pa_cons (pe_op op_sub (pe_op op_mod (pv 7) (pe_op op_pow pe_int pe_int)) (pe_op op_pow pe_int pe_int)) (pa_cons (pe_op op_add (pv 6) (pe_op op_mod (pv 7) pe_int)) pa_nil))))) (pv 4) (fun _ _ => rfl)) pa_nil)))))))
      (pss_one (ps_ret (pv 5))))))), ?_⟩
    walk_at "go"
    refine ⟨a, ns, at', rfl, hS, h0, ?_⟩
    generalize ns.getD at'.toNat 0 = c0
    walk_at "go"
    refine ⟨a, ns, at', rfl, hS, h0, ?_⟩
    generalize ns.getD at'.toNat 0 = c1
    walk_at "go"
    intro p np
    walk_at "go"
    have z0 := Int.emod_nonneg c0 (show m + 1 ≠ 0 by omega)
    have z1 := Int.emod_lt_of_pos c0 (show (0 : Int) < m + 1 by omega)
    generalize c0 % (m + 1) = size at z0 z1
    have k0 := Int.emod_nonneg (c1 / (m + 1)) (show (4 : Int) ≠ 0 by decide)
    have k1 := Int.emod_lt_of_pos (c1 / (m + 1)) (show (0 : Int) < 4 by decide)
    generalize c1 / (m + 1) % 4 = kind at k0 k1
    walk_at "go"
    refine r_loopR (fun i σ H' => ∃ ms : List Int, ∃ v w, σ = [some (.ref a), some (.int at'), some (.int m), some (.int size), some (.int kind), some (.ref p), v, w] ∧ Same H H' ∧ H' p = some (.lst (ms.map V.int)) ∧ ms.length = i ∧ Mid ms) ?_ ?_ ?_
    · exact ⟨[], _, _, rfl, same_new np _, upd_same, rfl, Mid.nil⟩
    · rintro i σ H' hi ⟨ms, v, w, rfl, s1, hp, hl, hm⟩
      have fin : ∀ (c k x : Int), 0 ≤ k → k ≤ 60 → (x = c % 4 ∨ x = c % 21 - 10 ∨ x = c % 10 ^ 50 - 10 ^ 49 ∨ x = k + c % 3) → x.natAbs < 2 ^ 200 := fun c k x k0 k1 hx => by
        have e1 := Int.emod_nonneg c (show (4 : Int) ≠ 0 by decide)
        have e2 := Int.emod_lt_of_pos c (show (0 : Int) < 4 by decide)
        have e3 := Int.emod_nonneg c (show (21 : Int) ≠ 0 by decide)
        have e4 := Int.emod_lt_of_pos c (show (0 : Int) < 21 by decide)
        have e5 := Int.emod_nonneg c (show (10 ^ 50 : Int) ≠ 0 by decide)
        have e6 := Int.emod_lt_of_pos c (show (0 : Int) < 10 ^ 50 by decide)
        have e7 := Int.emod_nonneg c (show (3 : Int) ≠ 0 by decide)
        have e8 := Int.emod_lt_of_pos c (show (0 : Int) < 3 by decide)
        omega
      walk_at "go"
      refine ⟨a, ns, _, rfl, s1.seq hS, by omega, ?_⟩
      generalize ns.getD (at' + 1 + (0 + (i : Int))).toNat 0 = c2
      walk_at "go"
      refine r_cut (fun σ' H4 => H4 = H' ∧ ∃ c : Int, σ' = [some (V.ref a), some (.int at'), some (.int m), some (.int size), some (.int kind), some (.ref p), some (.int (0 + (i : Int))), some (.int c)]) ?_ ?_
      · walk_at "go"
        try rw [List.length_map]
        refine brD (fun c => ?_) (fun c => ?_)
        · walk_at "go"
          refine ⟨a, ns, _, rfl, s1.seq hS, by omega, ?_⟩
          walk_at "go"
          refine ⟨_, _, _, rfl, by omega, by omega, by omega, by omega, fun r r0 r1 => ?_⟩
          walk_at "go"
          exact ⟨rfl, _, rfl⟩
        · walk_at "go"
          exact ⟨rfl, _, rfl⟩
      · rintro σ' H4 ⟨rfl, c, rfl⟩
        walk_at "go"
        intro t nt
        walk_at "go"
        have s2 : Same H4 (upd H4 t (.lst [V.int (c % 4), V.int (c % 21 - 10), V.int (c % 10 ^ 50 - 10 ^ 49), V.int (0 + (i : Int) + c % 3)])) := same_new nt _
        have kk : kind = ((0 : Nat) : Int) ∨ kind = ((1 : Nat) : Int) ∨ kind = ((2 : Nat) : Int) ∨ kind = ((3 : Nat) : Int) := by omega
        rcases kk with e | e | e | e
        · refine r_ixL (VT.SqL.lst upd_same) (r_at e rfl) ?_
          walk_at "go"
          exact ⟨ms ++ [_], _, _, rfl, same_mut (s1.trans s2) np, by rw [upd_same, snoc_int] <;> rfl, by rw [List.length_append, hl] <;> rfl, hm.snoc (fin c (0 + (i : Int)) _ (by omega) (by omega) (.inl rfl))⟩
        · refine r_ixL (VT.SqL.lst upd_same) (r_at e rfl) ?_
          walk_at "go"
          exact ⟨ms ++ [_], _, _, rfl, same_mut (s1.trans s2) np, by rw [upd_same, snoc_int] <;> rfl, by rw [List.length_append, hl] <;> rfl, hm.snoc (fin c (0 + (i : Int)) _ (by omega) (by omega) (.inr (.inl rfl)))⟩
        · refine r_ixL (VT.SqL.lst upd_same) (r_at e rfl) ?_
          walk_at "go"
          exact ⟨ms ++ [_], _, _, rfl, same_mut (s1.trans s2) np, by rw [upd_same, snoc_int] <;> rfl, by rw [List.length_append, hl] <;> rfl, hm.snoc (fin c (0 + (i : Int)) _ (by omega) (by omega) (.inr (.inr (.inl rfl))))⟩
        · refine r_ixL (VT.SqL.lst upd_same) (r_at e rfl) ?_
          walk_at "go"
          exact ⟨ms ++ [_], _, _, rfl, same_mut (s1.trans s2) np, by rw [upd_same, snoc_int] <;> rfl, by rw [List.length_append, hl] <;> rfl, hm.snoc (fin c (0 + (i : Int)) _ (by omega) (by omega) (.inr (.inr (.inr rfl))))⟩
    · rintro σ H' ⟨ms, v, w, rfl, s1, hp, hl, hm⟩
      walk_at "go"
      exact q p ms H' np s1 hp (by omega) hm
theorem sc__law_numbers : FnScope ["found", "due", "x"] ["found", "due"] (defScope s__law_numbers) := ⟨rfl, rfl, rfl, by decide +kernel, rfl, by decide +kernel, by decide +kernel⟩
def sp__law_numbers (K : PySem.W.Frag) (_ : Addr) : Sp := fun vs H Q _ => ∃ (a b : Addr) (ns ms : List Int), vs = [.ref a, .ref b] ∧ SqL K H a (ns.map V.int) ∧ SqL K H b (ms.map V.int) ∧ Q (.bl (decide (ns = ms))) H
theorem ok__law_numbers {f : Addr} {fd : FuncData} (F : Fun K "_law_numbers" "_law_numbers" s__law_numbers f fd) (T : Txt K mg C) (c__law_whole : C8.Cal P w K mg base 1 "_law_whole" (sp__law_whole K C) []) : FnOk P w K mg base CX0 2 f fd ["found", "due"] (sp__law_numbers K C) := by
  refine F.ok sc__law_numbers (fun vs H Q E h => ?_) (fun cdv A outer s H vs Q E hr h => ?_)
  · obtain ⟨a, b, ns, ms, rfl, h1, h2, q⟩ := h
    rfl
  · obtain ⟨a, b, ns, ms, rfl, h1, h2, q⟩ := h
    have hcl := T.cl
    have hnK := T.nK
    refine ⟨_, (pss_cons (ps_if (PW.pt (pw_or (pt_not (pt_val (pe_callB call_isi (by rfl) T.b_isinstance (by decide +kernel) (pa_cons (pv 0) (pa_cons (pe_bltn (v := .ty "list") (by rfl) T.b_list (by decide +kernel) rfl) pa_nil))))) (pw_or1 (pt_cmpR op_ne (pe_callB c_len (by rfl) T.b_len PySem.boot_len (pa_cons (pv 0) pa_nil)) (pe_callB c_len (by rfl) T.b_len PySem.boot_len (pa_cons (pv 1) pa_nil)) (nomark _))))) (pss_one (ps_ret pe_bl)) pss_nil)
      (pss_cons (ps_for PassesOwn.never rfl (pi_list (pv 0)) (pg_name (i := 2) sc__law_numbers.nd rfl (by first | exact Or.inl rfl | exact Or.inr rfl)) (pss_one (ps_if (pt_not (pt_val (C8.pe_c c__law_whole hr (by decide) rfl (pa_cons (pv 2) pa_nil)))) (pss_one (ps_ret pe_bl)) pss_nil)))
      (pss_one (ps_ret (pe_cmpR (op_eqD hr.units) (pv 0) (pv 1) (nomark _)))))), ?_⟩
    walk_at "go"
    walk_at "andor"
    walk_at "go"
    refine r_isiT (tyX_sq h1) (by decide +kernel) ?_
    walk_at "go"
    refine iteF ?_
    walk_at "go"
    refine brN (fun c => ?_) (fun c => ?_)
    · walk_at "go"
      have e : ns ≠ ms := fun z => c (by rw [z])
      rw [decide_eq_false e] at q
      exact q
    · walk_at "go"
      refine r_loopI (ns := ns) (fun i σ H' => H' = H ∧ ∃ v, σ = [some (.ref a), some (.ref b), v]) ⟨rfl, _, rfl⟩ (fun i σ H' _ hp => hp.1 ▸ h1) ?_ ?_
      · rintro i z σ H' hz ⟨rfl, v, rfl⟩
        walk_at "go"
        refine ⟨z, rfl, ?_⟩
        walk_at "go"
        refine iteF ?_
        walk_at "go"
        exact ⟨rfl, _, rfl⟩
      · rintro σ H' ⟨rfl, v, rfl⟩
        walk_at "go"
        refine r_eqL h1 h2 (all_int _) (all_int _) ?_
        rw [dec_ints]
        exact q
theorem sc__law_levels : FnScope ["kept", "found", "top", "level", "k"] ["kept"] (defScope s__law_levels) := ⟨rfl, rfl, rfl, by decide +kernel, rfl, by decide +kernel, by decide +kernel⟩
def sp__law_levels (_ : PySem.W.Frag) (C : Addr) : Sp := fun vs H Q _ => ∃ (k : Addr) (ns : List Int), vs = [.ref k] ∧ H k = some (.lst (ns.map V.int)) ∧ ns.length ≤ 40 ∧ (∀ x ∈ ns, 0 ≤ x) ∧
  ∀ (t : Addr) (H' : Hp), Same H H' → H t = none → H' t = some (.lst ((lvls ns).map V.int)) → Q (.ref t) H'
theorem ok__law_levels {f : Addr} {fd : FuncData} (F : Fun K "_law_levels" "_law_levels" s__law_levels f fd) (T : Txt K mg C)  : FnOk P w K mg base CX0 1 f fd ["kept"] (sp__law_levels K C) := by
  refine F.ok sc__law_levels (fun vs H Q E h => ?_) (fun cdv A outer s H vs Q E hr h => ?_)
  · obtain ⟨kp, ns, rfl, hk, hn, hnn, q⟩ := h
    rfl
  · obtain ⟨kp, ns, rfl, hk, hn, hnn, q⟩ := h
    have hcl := T.cl
    have hnK := T.nK
    refine ⟨_, (pss_cons (ps_set (i := 1) sc__law_levels.nd rfl (by first | exact Or.inl rfl | exact Or.inr rfl) (pe_callTy c_listOf (by rfl) T.b_list (by decide +kernel) (pa_cons (pv 0) pa_nil)))
      (pss_cons (ps_if (pt_cmpR op_eq (pe_callB c_len (by rfl) T.b_len PySem.boot_len (pa_cons (pv 0) pa_nil)) pe_int (nomark _)) (pss_one (ps_ret (pv 1))) pss_nil)
      (pss_cons (ps_set (i := 2) sc__law_levels.nd rfl (by first | exact Or.inl rfl | exact Or.inr rfl) (pe_bm PySem.F.plainAttrs_list PySem.F.slot_list_index PySem.F.type_list_index mt_index (pv 0) (pa_cons (pe_callB (cr_max rfl) (by rfl) T.b_max (by decide +kernel) (pa_cons (pv 0) pa_nil)) pa_nil)))
      (pss_cons (ps_set (i := 3) sc__law_levels.nd rfl (by first | exact Or.inl rfl | exact Or.inr rfl) pe_int)
      (pss_cons (ps_for PassesOwn.never rfl (pi_range1 (by rfl) T.b_range (pa_cons (pv 2) pa_nil)) (pg_name (i := 4) sc__law_levels.nd rfl (by first | exact Or.inl rfl | exact Or.inr rfl)) (pss_cons (ps_set (i := 3) sc__law_levels.nd rfl (by first | exact Or.inl rfl | exact Or.inr rfl) (pe_callB (c_max2 rfl) (by rfl) T.b_max (by decide +kernel) (pa_cons (pv 3) (pa_cons (pe_ix ix_list (pv 0) (pv 4) (fun _ _ => rfl)) pa_nil))))
      (pss_one (ps_asg (pv 3) (pg_sub (pv 1) (pv 4) set_list)))))
      (pss_cons (ps_set (i := 3) sc__law_levels.nd rfl (by first | exact Or.inl rfl | exact Or.inr rfl) pe_int)
      (pss_cons (ps_for PassesOwn.never rfl (pi_revR (by rfl) T.b_reversed (prg_2 (by rfl) T.b_range (pe_op op_add (pv 2) pe_int) (pe_callB c_len (by rfl) T.b_len PySem.boot_len (pa_cons (pv 0) pa_nil)))) (pg_name (i := 4) sc__law_levels.nd rfl (by first | exact Or.inl rfl | exact Or.inr rfl)) (pss_cons (ps_set (i := 3) sc__law_levels.nd rfl (by first | exact Or.inl rfl | exact Or.inr rfl) (pe_callB (c_max2 rfl) (by rfl) T.b_max (by decide +kernel) (pa_cons (pv 3) (pa_cons (pe_ix ix_list (pv 0) (pv 4) (fun _ _ => rfl)) pa_nil))))
      (pss_one (ps_asg (pv 3) (pg_sub (pv 1) (pv 4) set_list)))))
      (pss_one (ps_ret (pv 1)))))))))), ?_⟩
    walk_at "go"
    refine r_listOf (VT.SqL.lst hk) fun f nf => ?_
    have sA := same_new nf (.lst (ns.map V.int))
    have hF := @upd_same H f (.lst (ns.map V.int))
    have hk0 := sA _ _ hk
    have nkf : kp ≠ f := ne_of_none hk nf
    generalize upd H f (.lst (ns.map V.int)) = H0 at sA hF hk0
    walk_at "go"
    refine brD (fun c => ?_) (fun c => ?_)
    · walk_at "go"
      have e : ns = [] := List.eq_nil_of_length_eq_zero (by omega)
      subst e
      exact q f H0 sA nf hF
    have hn0 : 0 < ns.length := by omega
    walk_at "go"
    refine r_max (VT.SqL.lst hk0) hn0 fun m hm hle => ?_
    obtain ⟨t, ht, hno⟩ := first_at hm
    have htl : t < ns.length := (List.getElem?_eq_some_iff.mp ht).1
    have hT : IsTop ns t m := ⟨ht, hle⟩
    walk_at "go"
    refine r_index1 (VT.SqL.lst hk0) ht hno ?_
    walk_at "go"
    refine r_loop0 (fun i σ H' => ∃ v5, σ = [some (.ref kp), some (.ref f), some (.int (t : Int)), some (.int (hgt (ns.take i))), v5] ∧ Same H H' ∧ H' f = some (.lst ((filled ns fun p => decide (p < i)).map V.int))) ?_ ?_ ?_
    · refine ⟨_, rfl, sA, ?_⟩
      rw [hF, filled_ext (g := fun _ => false) fun p _ => decide_eq_false (Nat.not_lt_zero p), filled_none]
    · rintro i σ H2 hgt' ⟨v5, rfl, s2, hF2⟩
      have hil : i < t := by omega
      have hI : (ns.map V.int)[i]? = some (.int (ns.getD i 0)) := by
        rw [List.getElem?_map, getD_at' (by omega)] <;> rfl
      have hk2 := s2 _ _ hk
      walk_at "go"
      refine r_max2 ?_
      rw [hgt_take_more hnn (by omega)]
      walk_at "go"
      refine r_setL hF2 (by omega) (by rw [filled_len]; omega) ?_
      rw [show (i : Int).toNat = i by omega, filled_set (g := fun p => decide (p < i + 1)) (lvl_ahead hT hnn (by omega)).symm (decide_eq_true (by omega)) fun p hp => by
        show decide (p < i + 1) = decide (p < i)
        exact decide_eq_decide.mpr (by omega)]
      exact ⟨_, rfl, same_mut s2 nf, upd_same⟩
    rintro σ H2 ⟨v5, rfl, s2, hF2⟩
    rw [show (t : Int).toNat = t by omega] at hF2
    walk_at "go"
    refine r_loopC (fun i σ H' => ∃ v5, σ = [some (.ref kp), some (.ref f), some (.int (t : Int)), some (.int (hgt (ns.drop (ns.length - i)))), v5] ∧ Same H H' ∧ H' f = some (.lst ((filled ns fun p => decide (p ≤ t ∨ ns.length - i ≤ p)).map V.int))) ?_ ?_ ?_
    · have e0 : hgt (ns.drop (ns.length - 0)) = 0 := by
        rw [Nat.sub_zero, List.drop_length] <;> rfl
      refine ⟨v5, by rw [e0] <;> rfl, s2, ?_⟩
      rw [hF2]
      congr 2
      refine congrArg _ (filled_same (k := t) (by rw [lvl_top hT hnn, List.getD_eq_getElem?_getD, ht] <;> rfl) fun p hp ne => decide_eq_decide.mpr ?_)
      omega
    · rintro i σ H3 hi' ⟨v5, rfl, s3, hF3⟩
      have hx : ((t : Int) + 1 + ((((ns.length : Int) - ((t : Int) + 1)).toNat : Nat) : Int) - 1 + (i : Int) * -1) = ((ns.length - 1 - i : Nat) : Int) := by omega
      have hI : (ns.map V.int)[ns.length - 1 - i]? = some (.int (ns.getD (ns.length - 1 - i) 0)) := by
        rw [List.getElem?_map, getD_at' (by omega)] <;> rfl
      have hk3 := s3 _ _ hk
      rw [hx]
      walk_at "go"
      refine r_max2 ?_
      rw [show ns.length - i = ns.length - 1 - i + 1 by omega, hgt_drop_more (by omega)]
      walk_at "go"
      refine r_setL hF3 (by omega) (by rw [filled_len]; omega) ?_
      rw [show ((ns.length - 1 - i : Nat) : Int).toNat = ns.length - 1 - i by omega, filled_set (g := fun p => decide (p ≤ t ∨ ns.length - (i + 1) ≤ p)) (lvl_behind hT hnn (by omega)).symm (decide_eq_true (by omega)) fun p hp => decide_eq_decide.mpr (by omega)]
      exact ⟨_, by rw [show ns.length - 1 - i = ns.length - (i + 1) by omega] <;> rfl, same_mut s3 nf, upd_same⟩
    · rintro σ H3 ⟨v5, rfl, s3, hF3⟩
      walk_at "go"
      refine q f H3 s3 nf ?_
      rw [hF3, ← filled_all]
      congr 2
      refine congrArg _ (filled_ext fun p hp => decide_eq_true ?_)
      omega
theorem sc__law_right : FnScope ["row", "kept", "levels", "due", "turn", "found", "k", "number"] ["row", "kept"] (defScope s__law_right) := ⟨rfl, rfl, rfl, by decide +kernel, rfl, by decide +kernel, by decide +kernel⟩
def sp__law_right (_ : PySem.W.Frag) (C : Addr) : Sp := fun vs H Q _ => ∃ (p dx l k : Addr) (ns : List Int), vs = [.ref p, .ref k] ∧ H p = some (.ins C dx (rowF l)) ∧ H l = some (.lst (ns.map V.int)) ∧ H k = some (.lst (ns.map V.int)) ∧ ns.length ≤ 40 ∧ (∀ x ∈ ns, 0 ≤ x) ∧ ∀ H', Same H H' → Q (.bl true) H'
theorem ok__law_right {f : Addr} {fd : FuncData} (F : Fun K "_law_right" "_law_right" s__law_right f fd) (T : Txt K mg C) (c__law_numbers : C8.Cal P w K mg base 2 "_law_numbers" (sp__law_numbers K C) []) (c_water : C8.Cal P w K mg base 2 "water" (sp_water K C) []) (c_Row : C8.Mak P w K mg base 1 "Row" C (sp_Row___init__ K C) []) (c__law_levels : C8.Cal P w K mg base 1 "_law_levels" (sp__law_levels K C) []) : FnOk P w K mg base CX0 3 f fd ["row", "kept"] (sp__law_right K C) := by
  refine F.ok sc__law_right (fun vs H Q E h => ?_) (fun cdv A outer s H vs Q E hr h => ?_)
  · obtain ⟨p, dx, l, kp, ns, rfl, hp, hL, hk, hn, hnn, q⟩ := h
    rfl
  · obtain ⟨p, dx, l, kp, ns, rfl, hp, hL, hk, hn, hnn, q⟩ := h
    have hcl := T.cl
    have hnK := T.nK
    refine ⟨_, (pss_cons (ps_set (i := 2) sc__law_right.nd rfl (by first | exact Or.inl rfl | exact Or.inr rfl) (C8.pe_c c__law_levels hr (by decide) rfl (pa_cons (pv 1) pa_nil)))
      (pss_cons (ps_setLc (i := 3) (own := [("k", 6)]) (g := gName 6) (tt := tYes) rfl sc__law_right.nd rfl rfl (sw_true rfl rfl rfl (by decide +kernel)) (pi_range1 (by rfl) T.b_range (pa_cons (pe_callB c_len (by rfl) T.b_len PySem.boot_len (pa_cons (pv 1) pa_nil)) pa_nil)) (blkOk_by (own := [("k", 6)]) (N := ["row", "kept", "levels", "due", "turn", "found", "k", "number"]) (sc := (defScope s__law_right)) (by decide +kernel)) (fun _ _ _ _ _ => pg_name (i := 6) sc__law_right.nd rfl (by first | exact Or.inl rfl | exact Or.inr rfl)) (fun _ _ _ _ _ => pts_nil) (fun _ _ _ _ _ => (pe_op op_sub (pe_ix (ixL (K := K) rfl) (pv 2) (pv 6) (fun _ _ => rfl)) (pe_ix (ixL (K := K) rfl) (pv 1) (pv 6) (fun _ _ => rfl)))))
      (pss_cons (ps_for PassesOwn.never rfl (pi_range1 (by rfl) T.b_range (pa_cons pe_int pa_nil)) (pg_name (i := 4) sc__law_right.nd rfl (by first | exact Or.inl rfl | exact Or.inr rfl)) (pss_cons (ps_set (i := 5) sc__law_right.nd rfl (by first | exact Or.inl rfl | exact Or.inr rfl) (C8.pe_c c_water hr (by decide) rfl (pa_cons (pv 0) pa_nil)))
      (pss_cons (ps_if (pt_not (pt_val (C8.pe_c c__law_numbers hr (by decide) rfl (pa_cons (pv 5) (pa_cons (pv 3) pa_nil))))) (pss_one (ps_ret pe_bl)) pss_nil)
      (pss_one (ps_expr (pe_bm PySem.F.plainAttrs_list PySem.F.slot_list_append PySem.F.type_list_append mt_append (pv 5) (pa_cons pe_int pa_nil)))))))
      (pss_cons (ps_if (pt_not (pt_val (C8.pe_c c__law_numbers hr (by decide) rfl (pa_cons (C8.pe_c c_water hr (by decide) rfl (pa_cons (C8.pe_mk c_Row hr (by decide) rfl (pa_cons (pe_listRev rfl (by rfl) T.b_list (by rfl) T.b_reversed (pv 1)) pa_nil)) pa_nil)) (pa_cons (pe_listRev rfl (by rfl) T.b_list (by rfl) T.b_reversed (pv 3)) pa_nil))))) (pss_one (ps_ret pe_bl)) pss_nil)
      (pss_one (ps_ret (C8.pe_c c__law_numbers hr (by decide) rfl (pa_cons (C8.pe_c c_water hr (by decide) rfl (pa_cons (C8.pe_mk c_Row hr (by decide) rfl (pa_cons (pv 2) pa_nil)) pa_nil)) (pa_cons (pe_lc (own := [("number", 7)]) (g := gName 7) (tt := tYes) rfl sc__law_right.nd (pi_list (pv 1)) (blkOk_by (own := [("number", 7)]) (N := ["row", "kept", "levels", "due", "turn", "found", "k", "number"]) (sc := (defScope s__law_right)) (by decide +kernel)) (fun _ _ _ _ _ => pg_name (i := 7) sc__law_right.nd rfl (by first | exact Or.inl rfl | exact Or.inr rfl)) (fun _ _ _ _ _ => pts_nil) (fun _ _ _ _ _ => pe_int)) pa_nil))))))))), ?_⟩
    walk_at "go"
    refine ⟨kp, ns, rfl, hk, hn, hnn, fun lv H1 s1 nlv hlv => ?_⟩
    have hk1 := s1 _ _ hk
    walk_at "go"
    refine r_LcR0 (fun i => (wetTo ns i).map V.int) rfl (fun i _ => by rw [List.length_map, wetTo_len]; omega) (fun _ => rfl) (fun i H' N Z hi' s hN hZ => ?_) (fun du H2 ndu s2 hdu => ?_)
    · have hil : i < ns.length := by omega
      have hI : (ns.map V.int)[i]? = some (.int (ns.getD i 0)) := by
        rw [List.getElem?_map, getD_at' hil] <;> rfl
      have hJ : ((lvls ns).map V.int)[i]? = some (.int (lvl ns i)) := by
        rw [List.getElem?_map, getD_at' (by rw [lvls_len]; exact hil), lvls_get hil] <;> rfl
      have hk2 := s _ _ hk1
      have hl2 := s _ _ hlv
      walk_at "go"
      refine iteT ?_
      walk_at "go"
      exact hN _ _ (Same.refl _) (by show (wetTo ns (i + 1)).map V.int = _; rw [wetTo_more, ← snoc_int])
    replace hdu : H2 du = some (.lst ((wet ns).map V.int)) := hdu
    have hlv2 := s2 _ _ hlv
    have s12 := s1.trans s2
    have nld : lv ≠ du := ne_of_none hlv ndu
    clear hlv
    walk_at "go"
    refine r_loop0 (fun j σ H' => ∃ v4 v5, σ = [some (.ref p), some (.ref kp), some (.ref lv), some (.ref du), v4, v5, none, none] ∧ Same H2 H') ⟨_, _, rfl, Same.refl _⟩ ?_ ?_
    · rintro j σ H3 hj ⟨v4, v5, rfl, s3⟩
      have s13 := s12.trans s3
      walk_at "go"
      refine ⟨p, dx, l, ns, rfl, s13 _ _ hp, s13 _ _ hL, hn, hnn, fun t H4 s4 nt ht => ?_⟩
      walk_at "go"
      refine ⟨t, du, wet ns, wet ns, rfl, VT.SqL.lst ht, VT.SqL.lst (s4 _ _ (s3 _ _ hdu)), ?_⟩
      rw [decide_eq_true rfl]
      walk_at "go"
      refine iteF ?_
      walk_at "go"
      refine r_app ht (by unfold wet; rw [List.length_map, wetTo_len]; omega) ?_
      exact ⟨_, _, rfl, s3.trans (same_mut s4 nt)⟩
    rintro σ H3 ⟨v4, v5, rfl, s3⟩
    have s13 := s12.trans s3
    have hk3 := s13 _ _ hk
    walk_at "go"
    intro a na
    rw [← List.map_reverse]
    have sA := same_new na (.lst (ns.reverse.map V.int))
    have hA := @upd_same H3 a (.lst (ns.reverse.map V.int))
    generalize upd H3 a (.lst (ns.reverse.map V.int)) = H4 at sA hA
    walk_at "go"
    refine mk_row (ns := ns.reverse) (VT.SqL.lst hA) (by rw [List.length_reverse]; exact hn) fun p2 l2 d2 H5 s5 np2 nl2 npl2 hp2 hl2 => ?_
    walk_at "go"
    refine ⟨p2, d2, l2, ns.reverse, rfl, hp2, hl2, by rw [List.length_reverse]; exact hn, fun x hx => hnn x (List.mem_reverse.mp hx), fun t H6 s6 nt ht => ?_⟩
    have s36 := (sA.trans s5).trans s6
    have hd6 := s36 _ _ (s3 _ _ hdu)
    walk_at "go"
    intro b nb
    rw [← List.map_reverse]
    have sB := same_new nb (.lst ((wet ns).reverse.map V.int))
    walk_at "go"
    refine ⟨t, b, wet ns.reverse, (wet ns).reverse, rfl, VT.SqL.lst (sB _ _ ht), VT.SqL.lst upd_same, ?_⟩
    rw [decide_eq_true (wet_rev ns)]
    walk_at "go"
    refine iteF ?_
    have s37 := s36.trans sB
    have hlv7 := s37 _ _ (s3 _ _ hlv2)
    have hk7 := s37 _ _ hk3
    generalize upd H6 b (.lst ((wet ns).reverse.map V.int)) = H7 at s37 hlv7 hk7
    walk_at "go"
    refine mk_row (ns := lvls ns) (VT.SqL.lst hlv7) (by rw [lvls_len]; exact hn) fun p3 l3 d3 H8 s8 np3 nl3 npl3 hp3 hl3 => ?_
    walk_at "go"
    refine ⟨p3, d3, l3, lvls ns, rfl, hp3, hl3, by rw [lvls_len]; exact hn, lvls_nn ns, fun t H9 s9 nt ht => ?_⟩
    have hk9 := s9 _ _ (s8 _ _ hk7)
    walk_at "go"
    refine r_LcL (xs := ns.map V.int) (VT.SqL.lst hk9) (fun i => List.replicate i (V.int 0)) rfl (fun i hi' => by rw [List.length_map] at hi'; rw [List.length_replicate]; omega) (fun _ => rfl) (fun i y H' N Z hi' s hN hZ => ?_) (fun z H10 nz s10 hz => ?_)
    · walk_at "go"
      refine iteT ?_
      walk_at "go"
      exact hN _ _ (Same.refl _) (List.replicate_succ' ..)
    rw [List.length_map, ← List.map_replicate] at hz
    walk_at "go"
    refine ⟨t, z, wet (lvls ns), List.replicate ns.length 0, rfl, VT.SqL.lst (s10 _ _ ht), VT.SqL.lst hz, ?_⟩
    rw [decide_eq_true (wet_lvls ns)]
    exact q _ (s13.trans (((s37.trans s8).trans s9).trans s10))
/-- what one deed makes of the numbers, as far as it matters: some numbers, none below nought where none was -/
structure Deed (ns ms : List Int) (low : Int) : Prop where
  len : ms.length ≤ 40
  ne : 0 < ms.length
  nn : 0 ≤ low → (∀ x ∈ ns, 0 ≤ x) → ∀ x ∈ ms, 0 ≤ x
theorem deed_set {ns : List Int} {low : Int} {j : Nat} {z : Int} (h : ns.length ≤ 40) (h0 : 0 < ns.length) (hz : 0 ≤ low → 0 ≤ z) : Deed ns (ns.set j z) low :=
  ⟨by rw [List.length_set]; exact h, by rw [List.length_set]; exact h0, fun l nn x hx => by
    rcases List.mem_or_eq_of_mem_set hx with e | e
    · exact nn x e
    · rw [e]
      exact hz l⟩
theorem deed_ins {ns : List Int} {low : Int} {j : Nat} {z : Int} (h : ns.length < 40) (hz : 0 ≤ low → 0 ≤ z) : Deed ns (ns.take j ++ [z] ++ ns.drop j) low :=
  ⟨by rw [List.length_append, List.length_append, List.length_take, List.length_drop, List.length_singleton]; omega, by rw [List.length_append, List.length_append, List.length_singleton]; omega, fun l nn x hx => by
    rcases List.mem_append.mp hx with e | e
    · rcases List.mem_append.mp e with e | e
      · exact nn x (List.mem_of_mem_take e)
      · rw [List.mem_singleton.mp e]
        exact hz l
    · exact nn x (List.mem_of_mem_drop e)⟩
theorem deed_pop {ns : List Int} {low : Int} {j : Nat} (h : ns.length ≤ 40) (h0 : 1 < ns.length) : Deed ns (ns.eraseIdx j) low :=
  ⟨by rw [List.length_eraseIdx]; split <;> omega, by rw [List.length_eraseIdx]; split <;> omega, fun _ nn x hx => nn x (List.mem_of_mem_eraseIdx hx)⟩
theorem addTo_nn {ns : List Int} {i k : Nat} {z : Int} (hz : 0 ≤ z) (nn : ∀ x ∈ ns, 0 ≤ x) : ∀ x ∈ addTo ns i k z, 0 ≤ x := by
  induction k with
  | zero => exact nn
  | succ k ih =>
    intro x hx
    rcases List.mem_or_eq_of_mem_set hx with e | e
    · exact ih x e
    · rw [e]
      have g : 0 ≤ (addTo ns i k z).getD (i + k) 0 := by
        rw [List.getD_eq_getElem?_getD]
        cases q : (addTo ns i k z)[i + k]? with
        | none => exact Int.le_refl 0
        | some y => exact ih y (List.mem_of_getElem? q)
      omega
theorem deed_add {ns : List Int} {low : Int} {i k : Nat} {z : Int} (h : ns.length ≤ 40) (h0 : 0 < ns.length) (hz : 0 ≤ low → 0 ≤ z) : Deed ns (addTo ns i k z) low :=
  ⟨by rw [addTo_len]; exact h, by rw [addTo_len]; exact h0, fun l nn => addTo_nn (hz l) nn⟩
def But2 (l k : Addr) (H H' : Hp) : Prop := ∀ b o, H b = some o → b ≠ l → b ≠ k → H' b = some o
theorem But2.refl {l k : Addr} (H : Hp) : But2 l k H H := fun _ _ e _ _ => e
theorem But2.up1 {l k : Addr} {H H' : Hp} {o : HO} (h : But2 l k H H') : But2 l k H (upd H' l o) := fun b u e n1 n2 => by
  rw [upd_ne n1]
  exact h b u e n1 n2
theorem But2.up2 {l k : Addr} {H H' : Hp} {o : HO} (h : But2 l k H H') : But2 l k H (upd H' k o) := fun b u e n1 n2 => by
  rw [upd_ne n2]
  exact h b u e n1 n2
theorem But2.thn {l k : Addr} {H H1 H' : Hp} (h : But2 l k H H1) (h' : But l H1 H') : But2 l k H H' := fun b u e n1 n2 => h' b u (h b u e n1 n2) n1
theorem But2.thn2 {l k : Addr} {H H1 H' : Hp} (h : But2 l k H H1) (h' : But k H1 H') : But2 l k H H' := fun b u e n1 n2 => h' b u (h b u e n1 n2) n2
theorem sc__law_deed : FnScope ["row", "kept", "cell", "low", "number", "at", "behind", "k"] ["row", "kept", "cell", "low"] (defScope s__law_deed) := ⟨rfl, rfl, rfl, by decide +kernel, rfl, by decide +kernel, by decide +kernel⟩
def sp__law_deed (_ : PySem.W.Frag) (C : Addr) : Sp := fun vs H Q _ => ∃ (p dx l k : Addr) (ns : List Int) (c low : Int), vs = [.ref p, .ref k, .int c, .int low] ∧ H p = some (.ins C dx (rowF l)) ∧ H l = some (.lst (ns.map V.int)) ∧ H k = some (.lst (ns.map V.int)) ∧ ns.length ≤ 40 ∧ 0 < ns.length ∧ p ≠ l ∧ p ≠ k ∧ l ≠ k ∧
  ∀ (H' : Hp) (ms : List Int), But2 l k H H' → H' l = some (.lst (ms.map V.int)) → H' k = some (.lst (ms.map V.int)) → Deed ns ms low → Q .non H'
theorem ok__law_deed {f : Addr} {fd : FuncData} (F : Fun K "_law_deed" "_law_deed" s__law_deed f fd) (T : Txt K mg C) (c_Row_set_at : C8.Met P w K mg base 2 C "set_at" (sp_Row_set_at K C) []) (c_Row_put_in : C8.Met P w K mg base 2 C "put_in" (sp_Row_put_in K C) []) (c_Row_take_out : C8.Met P w K mg base 2 C "take_out" (sp_Row_take_out K C) []) (c_Row_add_to : C8.Met P w K mg base 2 C "add_to" (sp_Row_add_to K C) []) : FnOk P w K mg base CX0 3 f fd ["row", "kept", "cell", "low"] (sp__law_deed K C) := by
  refine F.ok sc__law_deed (fun vs H Q E h => ?_) (fun cdv A outer s H vs Q E hr h => ?_)
  · obtain ⟨p, dx, l, k, ns, c, low, rfl, hp, hL, hk, hn, hn0, npl, npk, nlk, q⟩ := h
    rfl
  · obtain ⟨p, dx, l, k, ns, c, low, rfl, hp, hL, hk, hn, hn0, npl, npk, nlk, q⟩ := h
    have hcl := T.cl
    have hnK := T.nK
    refine ⟨_, (pss_cons (ps_set (i := 4) sc__law_deed.nd rfl (by first | exact Or.inl rfl | exact Or.inr rfl) (pe_op op_add (pv 3) (pe_op op_mod (pe_op op_fdiv (pv 2) pe_int) pe_int)))
      (pss_cons (ps_set (i := 5) sc__law_deed.nd rfl (by first | exact Or.inl rfl | exact Or.inr rfl) (pe_op op_mod (pe_op op_fdiv (pv 2) pe_int) (pe_callB c_len (by rfl) T.b_len PySem.boot_len (pa_cons (pv 1) pa_nil))))
      (pss_one (ps_if (pt_cmpR op_eq (pe_op op_mod (pv 2) pe_int) pe_int (nomark _)) (pss_cons (ps_asg (pv 4) (pg_sub (pv 1) (pv 5) set_list))
      (pss_one (ps_expr (C8.pe_mt c_Row_set_at hr (by decide) (pv 0) (pa_cons (pv 5) (pa_cons (pv 4) pa_nil)))))) (pss_one (ps_if (PW.pt (pw_and (pt_cmpR op_eq (pe_op op_mod (pv 2) pe_int) pe_int (nomark _)) (pw_and1 (pt_cmpR op_lt (pe_callB c_len (by rfl) T.b_len PySem.boot_len (pa_cons (pv 1) pa_nil)) pe_int (nomark _))))) (pss_cons (ps_expr (pe_bm PySem.F.plainAttrs_list PySem.F.slot_list_insert PySem.F.type_list_insert m_insert (pv 1) (pa_cons (pv 5) (pa_cons (pv 4) pa_nil))))
      (pss_one (ps_expr (C8.pe_mt c_Row_put_in hr (by decide) (pv 0) (pa_cons (pv 5) (pa_cons (pv 4) pa_nil)))))) (pss_one (ps_if (PW.pt (pw_and (pt_cmpR op_eq (pe_op op_mod (pv 2) pe_int) pe_int (nomark _)) (pw_and1 (pt_cmpR op_gt (pe_callB c_len (by rfl) T.b_len PySem.boot_len (pa_cons (pv 1) pa_nil)) pe_int (nomark _))))) (pss_cons (ps_expr (pe_bm PySem.F.plainAttrs_list PySem.F.slot_list_pop PySem.F.type_list_pop mt_popAt (pv 1) (pa_cons (pv 5) pa_nil)))
      (pss_one (ps_expr (C8.pe_mt c_Row_take_out hr (by decide) (pv 0) (pa_cons (pv 5) pa_nil))))) (pss_cons (ps_set (i := 6) sc__law_deed.nd rfl (by first | exact Or.inl rfl | exact Or.inr rfl) (pe_op op_add (pe_op op_add (pv 5) pe_int) (pe_op op_mod (pe_op op_fdiv (pv 2) pe_int) (pe_op op_sub (pe_callB c_len (by rfl) T.b_len PySem.boot_len (pa_cons (pv 1) pa_nil)) (pv 5)))))
      (pss_cons (ps_for PassesOwn.never rfl (pi_range2 (by rfl) T.b_range (pa_cons (pv 5) (pa_cons (pv 6) pa_nil))) (pg_name (i := 7) sc__law_deed.nd rfl (by first | exact Or.inl rfl | exact Or.inr rfl)) (pss_one (ps_asg (pe_op op_add (pe_ix ix_list (pv 1) (pv 7) (fun _ _ => rfl)) (pe_op op_mul pe_int (pv 4))) (pg_sub (pv 1) (pv 7) set_list))))
      (pss_one (ps_expr (C8.pe_mt c_Row_add_to hr (by decide) (pv 0) (pa_cons (pv 5) (pa_cons (pv 6) (pa_cons (pe_op op_mul pe_int (pv 4)) pa_nil)))))))))))))))), ?_⟩
    walk_at "go"
    have n0 := Int.emod_nonneg (c / 500) (show (9 : Int) ≠ 0 by decide)
    have z0 := Int.emod_nonneg (c / 5) (show (ns.length : Int) ≠ 0 by omega)
    have z1 := Int.emod_lt_of_pos (c / 5) (show (0 : Int) < (ns.length : Int) by omega)
    have hz : 0 ≤ low → 0 ≤ low + c / 500 % 9 := fun h => by omega
    have hz3 : 0 ≤ low → 0 ≤ 3 * (low + c / 500 % 9) := fun h => by omega
    generalize low + c / 500 % 9 = num at hz hz3
    generalize c / 5 % (ns.length : Int) = at' at z0 z1
    refine brD (fun e => ?_) (fun e => ?_)
    · walk_at "go"
      refine r_setL hk z0 z1 ?_
      walk_at "go"
      refine ⟨p, dx, l, ns, at', num, rfl, up_get npk hp, up_get nlk hL, z0, z1, ?_⟩
      walk_at "go"
      exact q _ (ns.set at'.toNat num) (But2.refl H).up2.up1 upd_same (up_get nlk.symm upd_same) (deed_set hn hn0 hz)
    walk_at "go"
    walk_at "and"
    refine brA (fun e2 e2' => ?_) (fun e2 => ?_)
    · walk_at "go"
      refine r_ins hk (by rw [List.length_map]; omega) z0 (by omega) ?_
      rw [← List.map_take, ← List.map_drop, snoc_int, ← List.map_append]
      walk_at "go"
      refine ⟨p, dx, l, ns, at', num, rfl, up_get npk hp, up_get nlk hL, by omega, z0, by omega, ?_⟩
      walk_at "go"
      exact q _ (ns.take at'.toNat ++ [num] ++ ns.drop at'.toNat) (But2.refl _).up2.up1 upd_same (up_get nlk.symm upd_same) (deed_ins (by omega) hz)
    walk_at "go"
    walk_at "and"
    refine brA (fun e3 e3' => ?_) (fun e3 => ?_)
    · have hat : ns[at'.toNat]? = some (ns.getD at'.toNat 0) := getD_at (by omega)
      walk_at "go"
      refine r_popAt hk z0 (by omega) hat ?_
      walk_at "go"
      refine ⟨p, dx, l, ns, at', ns.getD at'.toNat 0, rfl, up_get npk hp, up_get nlk hL, by omega, z0, hat, ?_⟩
      walk_at "go"
      exact q _ (ns.eraseIdx at'.toNat) (But2.refl _).up2.up1 upd_same (up_get nlk.symm upd_same) (deed_pop hn (by omega))
    have y0 := Int.emod_nonneg (c / 4500) (show (ns.length : Int) - at' ≠ 0 by omega)
    have y1 := Int.emod_lt_of_pos (c / 4500) (show (0 : Int) < (ns.length : Int) - at' by omega)
    walk_at "go"
    generalize c / 4500 % ((ns.length : Int) - at') = d at y0 y1
    refine r_loopR (fun i σ H1 => ∃ v, σ = [some (.ref p), some (.ref k), some (.int c), some (.int low), some (.int num), some (.int at'), some (.int (at' + 1 + d)), v] ∧ But k H H1 ∧ H1 k = some (.lst ((addTo ns at'.toNat i (3 * num)).map V.int))) ?_ ?_ ?_
    · exact ⟨_, rfl, But.of (Same.refl _), hk⟩
    · rintro i σ H1 hi ⟨v, rfl, b1, hk1⟩
      have hlen := addTo_len ns at'.toNat i (3 * num)
      have ek : (at' + (i : Int)).toNat = at'.toNat + i := by omega
      have hx : ((addTo ns at'.toNat i (3 * num)).map V.int)[(at' + (i : Int)).toNat]? = some (.int ((addTo ns at'.toNat i (3 * num)).getD (at'.toNat + i) 0)) := by
        rw [List.getElem?_map, ek, getD_at (by omega)] <;> rfl
      walk_at "go"
      refine r_ixL (VT.SqL.lst hk1) (r_at (by omega) hx) ?_
      walk_at "go"
      refine r_setL hk1 (by omega) (by omega) ?_
      refine ⟨_, rfl, b1.up, ?_⟩
      rw [upd_same, ek] <;> rfl
    · rintro σ H1 ⟨v, rfl, b1, hk1⟩
      walk_at "go"
      refine ⟨p, dx, l, ns, at', at' + 1 + d, 3 * num, rfl, b1 _ _ hp npk, b1 _ _ hL nlk, by omega, npl, z0, by omega, by omega, fun H2 b2 hl2 => ?_⟩
      walk_at "go"
      exact q H2 _ (((But2.refl _).thn2 b1).thn b2) hl2 (b2 _ _ hk1 nlk.symm) (deed_add hn hn0 hz3)
def absL (ns : List Int) (i : Nat) : List V := ((ns.take i).map fun x => if x < 0 then -x else x).map V.int
theorem absL_more {ns : List Int} {i : Nat} {x : Int} (h : ns[i]? = some x) : absL ns (i + 1) = absL ns i ++ [V.int (if x < 0 then -x else x)] := by
  unfold absL
  rw [take_more h, List.map_append, List.map_append]
  rfl
theorem absL_all (ns : List Int) : absL ns ns.length = (ns.map fun x => if x < 0 then -x else x).map V.int := by
  unfold absL
  rw [List.take_length]
theorem abs_nn (ns : List Int) : ∀ x ∈ ns.map (fun x => if x < 0 then -x else x), (0 : Int) ≤ x := fun x hx => by
  obtain ⟨y, _, rfl⟩ := List.mem_map.mp hx
  split <;> omega
theorem sc_law : FnScope ["script", "kept", "row", "number"] ["script"] (defScope s_law) := ⟨rfl, rfl, rfl, by decide +kernel, rfl, by decide +kernel, by decide +kernel⟩
def sp_law (K : PySem.W.Frag) (_ : Addr) : Sp := fun vs H Q _ => ∃ (a : Addr) (ns : List Int), vs = [.ref a] ∧ SqL K H a (ns.map V.int) ∧ ns.length ≤ 63 ∧ ∀ H', Q (.bl true) H'
theorem law_in {K : PySem.W.Frag} {H : Hp} {a : Addr} {ns : List Int} {E : XK} (hS : SqL K H a (ns.map V.int)) (hl : ns.length ≤ 63) : sp_law K 0 [.ref a] H (fun v _ => v = .bl true) E := ⟨a, ns, rfl, hS, hl, fun _ => rfl⟩
theorem ok_law {f : Addr} {fd : FuncData} (F : Fun K "law" "law" s_law f fd) (T : Txt K mg C) (c__law_right : C8.Cal P w K mg base 3 "_law_right" (sp__law_right K C) []) (c__law_deed : C8.Cal P w K mg base 3 "_law_deed" (sp__law_deed K C) []) (c__law_cell_at : C8.Cal P w K mg base 1 "_law_cell_at" (sp__law_cell_at K C) []) (c_Row : C8.Mak P w K mg base 1 "Row" C (sp_Row___init__ K C) []) (c__law_row : C8.Cal P w K mg base 2 "_law_row" (sp__law_row K C) []) : FnOk P w K mg base CX0 4 f fd ["script"] (sp_law K C) := by
  refine F.ok sc_law (fun vs H Q E h => ?_) (fun cdv A outer s H vs Q E hr h => ?_)
  · obtain ⟨a, ns, rfl, hS, hl, k⟩ := h
    rfl
  · obtain ⟨a, ns, rfl, hS, hl, k⟩ := h
    have hcl := T.cl
    have hnK := T.nK
    refine ⟨_, (pss_cons (ps_setLc (i := 1) (own := [("number", 3)]) (g := gName 3) (tt := tYes) rfl sc_law.nd rfl rfl (sw_true rfl rfl rfl (by decide +kernel)) (pi_list (C8.pe_c c__law_row hr (by decide) rfl (pa_cons (pv 0) (pa_cons pe_int (pa_cons pe_int pa_nil))))) (blkOk_by (own := [("number", 3)]) (N := ["script", "kept", "row", "number"]) (sc := (defScope s_law)) (by decide +kernel)) (fun _ _ _ _ _ => pg_name (i := 3) sc_law.nd rfl (by first | exact Or.inl rfl | exact Or.inr rfl)) (fun _ _ _ _ _ => pts_nil) (fun _ _ _ _ _ => (pe_callB c_abs (by rfl) T.b_abs (by decide +kernel) (pa_cons (pv 3) pa_nil))))
      (pss_cons (ps_set (i := 2) sc_law.nd rfl (by first | exact Or.inl rfl | exact Or.inr rfl) (C8.pe_mk c_Row hr (by decide) rfl (pa_cons (pe_callTy c_listOf (by rfl) T.b_list (by decide +kernel) (pa_cons (pv 1) pa_nil)) pa_nil)))
      (pss_cons (ps_if (pt_not (pt_val (C8.pe_c c__law_right hr (by decide) rfl (pa_cons (pv 2) (pa_cons (pv 1) pa_nil))))) (pss_one (ps_ret pe_bl)) pss_nil)
      (pss_cons (ps_if (pt_cmpR op_eq (pe_callB c_len (by rfl) T.b_len PySem.boot_len (pa_cons (pv 1) pa_nil)) pe_int (nomark _)) (pss_one (ps_ret pe_bl)) pss_nil)
      (pss_cons (ps_expr (C8.pe_c c__law_deed hr (by decide) rfl (pa_cons (pv 2) (pa_cons (pv 1) (pa_cons (C8.pe_c c__law_cell_at hr (by decide) rfl (pa_cons (pv 0) (pa_cons pe_int pa_nil))) (pa_cons pe_int pa_nil))))))
      (pss_one (ps_ret (C8.pe_c c__law_right hr (by decide) rfl (pa_cons (pv 2) (pa_cons (pv 1) pa_nil)))))))))), ?_⟩
    walk_at "go"
    refine ⟨a, ns, 0, 40, rfl, hS, by omega, by omega, by omega, by omega, fun kq ms H1 nk s1 hk hm _ => ?_⟩
    walk_at "go"
    refine r_LcL (xs := ms.map V.int) (VT.SqL.lst hk) (absL ms) rfl (fun i _ => by unfold absL; rw [List.length_map, List.length_map, List.length_take]; omega) (fun _ => rfl) (fun i y H' N Z hi s hN hZ => ?_) (fun kp H2 nkp s2 hkp => ?_)
    · obtain ⟨y, hy, rfl⟩ := nth_int hi
      walk_at "go"
      refine iteT ?_
      walk_at "go"
      refine r_abs ?_
      exact hN _ _ (Same.refl _) (absL_more hy)
    rw [List.length_map, absL_all] at hkp
    have hnn := abs_nn ms
    have hml : (ms.map fun x => if x < 0 then -x else x).length ≤ 40 := by rw [List.length_map]; omega
    generalize (ms.map fun x => if x < 0 then -x else x) = ks at hkp hnn hml
    have s02 := s1.trans s2
    walk_at "go"
    refine r_listOf (VT.SqL.lst hkp) fun ha nha => ?_
    have sA := same_new nha (.lst (ks.map V.int))
    walk_at "go"
    refine mk_row (ns := ks) (VT.SqL.lst upd_same) (by omega) fun p l d H3 s3 np nl npl hp hl => ?_
    have s12 := sA.trans s3
    have hk2 := s12 _ _ hkp
    have npk : p ≠ kp := (ne_of_none (sA _ _ hkp) np).symm
    have nlk : l ≠ kp := (ne_of_none (sA _ _ hkp) nl).symm
    walk_at "go"
    refine ⟨p, d, l, kp, ks, rfl, hp, hl, hk2, by omega, hnn, fun H4 s4 => ?_⟩
    have hk3 := s4 _ _ hk2
    walk_at "go"
    refine iteF ?_
    walk_at "go"
    refine brD (fun c => ?_) (fun c => ?_)
    · walk_at "go"
      exact k _
    walk_at "go"
    refine ⟨a, ns, 42, rfl, ((s02.trans s12).trans s4).seq hS, by omega, ?_⟩
    walk_at "go"
    refine ⟨p, d, l, kp, ks, _, _, rfl, s4 _ _ hp, s4 _ _ hl, hk3, by omega, by omega, npl, npk, nlk, fun H5 zs b4 hl4 hk4 hd => ?_⟩
    walk_at "go"
    refine ⟨p, d, l, kp, zs, rfl, b4 _ _ (s4 _ _ hp) npl npk, hl4, hk4, hd.len, hd.nn (Int.le_refl _) hnn, fun H6 s6 => ?_⟩
    exact k _
end
theorem all_mk {l : PySem.W.OpenLaw} {w : World} {K : PySem.W.Frag} {h : Heap} {mg : Str → Option Value} {fa C : Addr} {f1 f2 f3 f4 f5 f6 f7 f8 f9 f10 f11 f12 f13 f14 f15 f16 f17 f18 f19 : Addr} (X : K.In h) (G : h.Ns mainGlobals mg) (hfa : mg "law" = some (.ref fa))
    (aC : PySem.W.nsIn K mainGlobals "Row" = some (some (.ref C))) (pg : PySem.W.plainGet K C Str.empty = true) (hd : PySem.W.hasDictIn K C = true) (po : PySem.W.plainOver K C = true) (sa : PySem.W.findIn K (.ref C) "__setattr__" = some (some (.builtin "object.__setattr__"))) (mk : PySem.W.makesIn K C = true) (kc : PySem.W.keepIn K (.ref C) = true) (nK : PySem.W.findIn K (.ref C) "kept" = some none)
    {od1 an1 : Option Addr} {sl1 : Array (Option Value)} {oc1 kV1 dc1 pm1 cd1 ct1 : Value}
    (a1 : PySem.W.nsIn K mainGlobals "ask_sky" = some (some (.ref f1)))
    (l1 : K.lookup f1 = some ⟨oc1, od1, .func (PySem.W.fnOf "ask_sky" "ask_sky" (defArgs s_ask_sky) (defBody s_ask_sky) (defScope s_ask_sky) .none kV1 dc1 pm1 an1 cd1 ct1), sl1⟩) (c1 : PySem.W.codeIn K cd1 "ask_sky" = true) (k1 : PySem.W.keepIn K (.ref f1) = true)
    {od2 an2 : Option Addr} {sl2 : Array (Option Value)} {oc2 kV2 dc2 pm2 cd2 ct2 : Value}
    (a2 : PySem.W.findIn K (.ref C) "numbers" = some (some (.ref f2))) (i2 : PySem.W.isFn K (.ref f2) = true)
    (l2 : K.lookup f2 = some ⟨oc2, od2, .func (PySem.W.fnOf "numbers" "Row.numbers" (defArgs s_Row_numbers) (defBody s_Row_numbers) (defScope s_Row_numbers) .none kV2 dc2 pm2 an2 cd2 ct2), sl2⟩) (c2 : PySem.W.codeIn K cd2 "Row.numbers" = true) (k2 : PySem.W.keepIn K (.ref f2) = true)
    {od3 an3 : Option Addr} {sl3 : Array (Option Value)} {oc3 kV3 dc3 pm3 cd3 ct3 : Value}
    (a3 : PySem.W.nsIn K mainGlobals "water" = some (some (.ref f3)))
    (l3 : K.lookup f3 = some ⟨oc3, od3, .func (PySem.W.fnOf "water" "water" (defArgs s_water) (defBody s_water) (defScope s_water) .none kV3 dc3 pm3 an3 cd3 ct3), sl3⟩) (c3 : PySem.W.codeIn K cd3 "water" = true) (k3 : PySem.W.keepIn K (.ref f3) = true)
    {od4 an4 : Option Addr} {sl4 : Array (Option Value)} {oc4 kV4 dc4 pm4 cd4 ct4 : Value}
    (a4 : PySem.W.findIn K (.ref C) "__init__" = some (some (.ref f4))) (i4 : PySem.W.isFn K (.ref f4) = true)
    (l4 : K.lookup f4 = some ⟨oc4, od4, .func (PySem.W.fnOf "__init__" "Row.__init__" (defArgs s_Row___init__) (defBody s_Row___init__) (defScope s_Row___init__) .none kV4 dc4 pm4 an4 cd4 ct4), sl4⟩) (c4 : PySem.W.codeIn K cd4 "Row.__init__" = true) (k4 : PySem.W.keepIn K (.ref f4) = true)
    {od5 an5 : Option Addr} {sl5 : Array (Option Value)} {oc5 kV5 dc5 pm5 cd5 ct5 : Value}
    (a5 : PySem.W.findIn K (.ref C) "ask" = some (some (.ref f5))) (i5 : PySem.W.isFn K (.ref f5) = true)
    (l5 : K.lookup f5 = some ⟨oc5, od5, .func (PySem.W.fnOf "ask" "Row.ask" (defArgs s_Row_ask) (defBody s_Row_ask) (defScope s_Row_ask) .none kV5 dc5 pm5 an5 cd5 ct5), sl5⟩) (c5 : PySem.W.codeIn K cd5 "Row.ask" = true) (k5 : PySem.W.keepIn K (.ref f5) = true)
    {od6 an6 : Option Addr} {sl6 : Array (Option Value)} {oc6 kV6 dc6 pm6 cd6 ct6 : Value}
    (a6 : PySem.W.findIn K (.ref C) "ask_stretch" = some (some (.ref f6))) (i6 : PySem.W.isFn K (.ref f6) = true)
    (l6 : K.lookup f6 = some ⟨oc6, od6, .func (PySem.W.fnOf "ask_stretch" "Row.ask_stretch" (defArgs s_Row_ask_stretch) (defBody s_Row_ask_stretch) (defScope s_Row_ask_stretch) .none kV6 dc6 pm6 an6 cd6 ct6), sl6⟩) (c6 : PySem.W.codeIn K cd6 "Row.ask_stretch" = true) (k6 : PySem.W.keepIn K (.ref f6) = true)
    {od7 an7 : Option Addr} {sl7 : Array (Option Value)} {oc7 kV7 dc7 pm7 cd7 ct7 : Value}
    (a7 : PySem.W.findIn K (.ref C) "set_at" = some (some (.ref f7))) (i7 : PySem.W.isFn K (.ref f7) = true)
    (l7 : K.lookup f7 = some ⟨oc7, od7, .func (PySem.W.fnOf "set_at" "Row.set_at" (defArgs s_Row_set_at) (defBody s_Row_set_at) (defScope s_Row_set_at) .none kV7 dc7 pm7 an7 cd7 ct7), sl7⟩) (c7 : PySem.W.codeIn K cd7 "Row.set_at" = true) (k7 : PySem.W.keepIn K (.ref f7) = true)
    {od8 an8 : Option Addr} {sl8 : Array (Option Value)} {oc8 kV8 dc8 pm8 cd8 ct8 : Value}
    (a8 : PySem.W.findIn K (.ref C) "take_out" = some (some (.ref f8))) (i8 : PySem.W.isFn K (.ref f8) = true)
    (l8 : K.lookup f8 = some ⟨oc8, od8, .func (PySem.W.fnOf "take_out" "Row.take_out" (defArgs s_Row_take_out) (defBody s_Row_take_out) (defScope s_Row_take_out) .none kV8 dc8 pm8 an8 cd8 ct8), sl8⟩) (c8 : PySem.W.codeIn K cd8 "Row.take_out" = true) (k8 : PySem.W.keepIn K (.ref f8) = true)
    {od9 an9 : Option Addr} {sl9 : Array (Option Value)} {oc9 kV9 dc9 pm9 cd9 ct9 : Value}
    (a9 : PySem.W.findIn K (.ref C) "put_in" = some (some (.ref f9))) (i9 : PySem.W.isFn K (.ref f9) = true)
    (l9 : K.lookup f9 = some ⟨oc9, od9, .func (PySem.W.fnOf "put_in" "Row.put_in" (defArgs s_Row_put_in) (defBody s_Row_put_in) (defScope s_Row_put_in) .none kV9 dc9 pm9 an9 cd9 ct9), sl9⟩) (c9 : PySem.W.codeIn K cd9 "Row.put_in" = true) (k9 : PySem.W.keepIn K (.ref f9) = true)
    {od10 an10 : Option Addr} {sl10 : Array (Option Value)} {oc10 kV10 dc10 pm10 cd10 ct10 : Value}
    (a10 : PySem.W.findIn K (.ref C) "add_to" = some (some (.ref f10))) (i10 : PySem.W.isFn K (.ref f10) = true)
    (l10 : K.lookup f10 = some ⟨oc10, od10, .func (PySem.W.fnOf "add_to" "Row.add_to" (defArgs s_Row_add_to) (defBody s_Row_add_to) (defScope s_Row_add_to) .none kV10 dc10 pm10 an10 cd10 ct10), sl10⟩) (c10 : PySem.W.codeIn K cd10 "Row.add_to" = true) (k10 : PySem.W.keepIn K (.ref f10) = true)
    {od11 an11 : Option Addr} {sl11 : Array (Option Value)} {oc11 kV11 dc11 pm11 cd11 ct11 : Value}
    (a11 : PySem.W.nsIn K mainGlobals "_law_cell_at" = some (some (.ref f11)))
    (l11 : K.lookup f11 = some ⟨oc11, od11, .func (PySem.W.fnOf "_law_cell_at" "_law_cell_at" (defArgs s__law_cell_at) (defBody s__law_cell_at) (defScope s__law_cell_at) .none kV11 dc11 pm11 an11 cd11 ct11), sl11⟩) (c11 : PySem.W.codeIn K cd11 "_law_cell_at" = true) (k11 : PySem.W.keepIn K (.ref f11) = true)
    {od12 an12 : Option Addr} {sl12 : Array (Option Value)} {oc12 kV12 dc12 pm12 cd12 ct12 : Value}
    (a12 : PySem.W.nsIn K mainGlobals "_law_whole" = some (some (.ref f12)))
    (l12 : K.lookup f12 = some ⟨oc12, od12, .func (PySem.W.fnOf "_law_whole" "_law_whole" (defArgs s__law_whole) (defBody s__law_whole) (defScope s__law_whole) .none kV12 dc12 pm12 an12 cd12 ct12), sl12⟩) (c12 : PySem.W.codeIn K cd12 "_law_whole" = true) (k12 : PySem.W.keepIn K (.ref f12) = true)
    {od13 an13 : Option Addr} {sl13 : Array (Option Value)} {oc13 kV13 dc13 pm13 cd13 ct13 : Value}
    (a13 : PySem.W.nsIn K mainGlobals "_law_draw" = some (some (.ref f13)))
    (l13 : K.lookup f13 = some ⟨oc13, od13, .func (PySem.W.fnOf "_law_draw" "_law_draw" (defArgs s__law_draw) (defBody s__law_draw) (defScope s__law_draw) .none kV13 dc13 pm13 an13 cd13 ct13), sl13⟩) (c13 : PySem.W.codeIn K cd13 "_law_draw" = true) (k13 : PySem.W.keepIn K (.ref f13) = true)
    {od14 an14 : Option Addr} {sl14 : Array (Option Value)} {oc14 kV14 dc14 pm14 cd14 ct14 : Value}
    (a14 : PySem.W.nsIn K mainGlobals "_law_row" = some (some (.ref f14)))
    (l14 : K.lookup f14 = some ⟨oc14, od14, .func (PySem.W.fnOf "_law_row" "_law_row" (defArgs s__law_row) (defBody s__law_row) (defScope s__law_row) .none kV14 dc14 pm14 an14 cd14 ct14), sl14⟩) (c14 : PySem.W.codeIn K cd14 "_law_row" = true) (k14 : PySem.W.keepIn K (.ref f14) = true)
    {od15 an15 : Option Addr} {sl15 : Array (Option Value)} {oc15 kV15 dc15 pm15 cd15 ct15 : Value}
    (a15 : PySem.W.nsIn K mainGlobals "_law_numbers" = some (some (.ref f15)))
    (l15 : K.lookup f15 = some ⟨oc15, od15, .func (PySem.W.fnOf "_law_numbers" "_law_numbers" (defArgs s__law_numbers) (defBody s__law_numbers) (defScope s__law_numbers) .none kV15 dc15 pm15 an15 cd15 ct15), sl15⟩) (c15 : PySem.W.codeIn K cd15 "_law_numbers" = true) (k15 : PySem.W.keepIn K (.ref f15) = true)
    {od16 an16 : Option Addr} {sl16 : Array (Option Value)} {oc16 kV16 dc16 pm16 cd16 ct16 : Value}
    (a16 : PySem.W.nsIn K mainGlobals "_law_levels" = some (some (.ref f16)))
    (l16 : K.lookup f16 = some ⟨oc16, od16, .func (PySem.W.fnOf "_law_levels" "_law_levels" (defArgs s__law_levels) (defBody s__law_levels) (defScope s__law_levels) .none kV16 dc16 pm16 an16 cd16 ct16), sl16⟩) (c16 : PySem.W.codeIn K cd16 "_law_levels" = true) (k16 : PySem.W.keepIn K (.ref f16) = true)
    {od17 an17 : Option Addr} {sl17 : Array (Option Value)} {oc17 kV17 dc17 pm17 cd17 ct17 : Value}
    (a17 : PySem.W.nsIn K mainGlobals "_law_right" = some (some (.ref f17)))
    (l17 : K.lookup f17 = some ⟨oc17, od17, .func (PySem.W.fnOf "_law_right" "_law_right" (defArgs s__law_right) (defBody s__law_right) (defScope s__law_right) .none kV17 dc17 pm17 an17 cd17 ct17), sl17⟩) (c17 : PySem.W.codeIn K cd17 "_law_right" = true) (k17 : PySem.W.keepIn K (.ref f17) = true)
    {od18 an18 : Option Addr} {sl18 : Array (Option Value)} {oc18 kV18 dc18 pm18 cd18 ct18 : Value}
    (a18 : PySem.W.nsIn K mainGlobals "_law_deed" = some (some (.ref f18)))
    (l18 : K.lookup f18 = some ⟨oc18, od18, .func (PySem.W.fnOf "_law_deed" "_law_deed" (defArgs s__law_deed) (defBody s__law_deed) (defScope s__law_deed) .none kV18 dc18 pm18 an18 cd18 ct18), sl18⟩) (c18 : PySem.W.codeIn K cd18 "_law_deed" = true) (k18 : PySem.W.keepIn K (.ref f18) = true)
    {od19 an19 : Option Addr} {sl19 : Array (Option Value)} {oc19 kV19 dc19 pm19 cd19 ct19 : Value}
    (a19 : PySem.W.nsIn K mainGlobals "law" = some (some (.ref f19)))
    (l19 : K.lookup f19 = some ⟨oc19, od19, .func (PySem.W.fnOf "law" "law" (defArgs s_law) (defBody s_law) (defScope s_law) .none kV19 dc19 pm19 an19 cd19 ct19), sl19⟩) (c19 : PySem.W.codeIn K cd19 "law" = true) (k19 : PySem.W.keepIn K (.ref f19) = true)
    (z_abs : PySem.W.nsIn K mainGlobals "abs" = some none)
    (z_bool : PySem.W.nsIn K mainGlobals "bool" = some none)
    (z_int : PySem.W.nsIn K mainGlobals "int" = some none)
    (z_isinstance : PySem.W.nsIn K mainGlobals "isinstance" = some none)
    (z_len : PySem.W.nsIn K mainGlobals "len" = some none)
    (z_list : PySem.W.nsIn K mainGlobals "list" = some none)
    (z_max : PySem.W.nsIn K mainGlobals "max" = some none)
    (z_min : PySem.W.nsIn K mainGlobals "min" = some none)
    (z_range : PySem.W.nsIn K mainGlobals "range" = some none)
    (z_reversed : PySem.W.nsIn K mainGlobals "reversed" = some none)
    {tk_MOST : Tok} (g_MOST : PySem.W.nsIn K mainGlobals "MOST" = some (some (.int 40 tk_MOST)))
    : ∃ fd : FuncData, (∀ (s : Shared) (v : Value), BindsTo s fd ⟨[v], []⟩ [("script", v)]) ∧ ∀ base : Heap, K.In base → base.Ns mainGlobals mg → FnOk l.prog w K mg base CX0 4 fa fd ["script"] (sp_law K 0) := by
  have e := hfa.symm.trans (PySem.W.mg_of X G a19)
  cases e
  have T : Txt K mg C := { cl := ⟨pg, hd, po, sa⟩, nK := nK, mgC := PySem.W.mg_of X G aC, b_abs := PySem.W.mg_none_of X G z_abs, b_bool := PySem.W.mg_none_of X G z_bool, b_int := PySem.W.mg_none_of X G z_int, b_isinstance := PySem.W.mg_none_of X G z_isinstance, b_len := PySem.W.mg_none_of X G z_len, b_list := PySem.W.mg_none_of X G z_list, b_max := PySem.W.mg_none_of X G z_max, b_min := PySem.W.mg_none_of X G z_min, b_range := PySem.W.mg_none_of X G z_range, b_reversed := PySem.W.mg_none_of X G z_reversed, g_MOST := ⟨_, PySem.W.mg_of X G g_MOST, ⟨_, rfl⟩⟩ }
  have F1 := fun_mk (st := s_ask_sky) l1 c1 k1
  have b1 := F1.binds (ps := ["numbers"]) fun _ _ _ _ _ _ us hl => match us, hl with | [_], _ => rfl
  have F2 := fun_mk (st := s_Row_numbers) l2 c2 k2
  have b2 := F2.binds (ps := ["self"]) fun _ _ _ _ _ _ us hl => match us, hl with | [_], _ => rfl
  have F3 := fun_mk (st := s_water) l3 c3 k3
  have b3 := F3.binds (ps := ["row"]) fun _ _ _ _ _ _ us hl => match us, hl with | [_], _ => rfl
  have F4 := fun_mk (st := s_Row___init__) l4 c4 k4
  have b4 := F4.binds (ps := ["self", "numbers"]) fun _ _ _ _ _ _ us hl => match us, hl with | [_, _], _ => rfl
  have F5 := fun_mk (st := s_Row_ask) l5 c5 k5
  have b5 := F5.binds (ps := ["self", "place", "many"]) fun _ _ _ _ _ _ us hl => match us, hl with | [_, _, _], _ => rfl
  have F6 := fun_mk (st := s_Row_ask_stretch) l6 c6 k6
  have b6 := F6.binds (ps := ["self", "first", "behind"]) fun _ _ _ _ _ _ us hl => match us, hl with | [_, _, _], _ => rfl
  have F7 := fun_mk (st := s_Row_set_at) l7 c7 k7
  have b7 := F7.binds (ps := ["self", "place", "number"]) fun _ _ _ _ _ _ us hl => match us, hl with | [_, _, _], _ => rfl
  have F8 := fun_mk (st := s_Row_take_out) l8 c8 k8
  have b8 := F8.binds (ps := ["self", "place"]) fun _ _ _ _ _ _ us hl => match us, hl with | [_, _], _ => rfl
  have F9 := fun_mk (st := s_Row_put_in) l9 c9 k9
  have b9 := F9.binds (ps := ["self", "place", "number"]) fun _ _ _ _ _ _ us hl => match us, hl with | [_, _, _], _ => rfl
  have F10 := fun_mk (st := s_Row_add_to) l10 c10 k10
  have b10 := F10.binds (ps := ["self", "first", "behind", "number"]) fun _ _ _ _ _ _ us hl => match us, hl with | [_, _, _, _], _ => rfl
  have F11 := fun_mk (st := s__law_cell_at) l11 c11 k11
  have b11 := F11.binds (ps := ["script", "k"]) fun _ _ _ _ _ _ us hl => match us, hl with | [_, _], _ => rfl
  have F12 := fun_mk (st := s__law_whole) l12 c12 k12
  have b12 := F12.binds (ps := ["found"]) fun _ _ _ _ _ _ us hl => match us, hl with | [_], _ => rfl
  have F13 := fun_mk (st := s__law_draw) l13 c13 k13
  have b13 := F13.binds (ps := ["cell", "k", "bound"]) fun _ _ _ _ _ _ us hl => match us, hl with | [_, _, _], _ => rfl
  have F14 := fun_mk (st := s__law_row) l14 c14 k14
  have b14 := F14.binds (ps := ["script", "at", "most"]) fun _ _ _ _ _ _ us hl => match us, hl with | [_, _, _], _ => rfl
  have F15 := fun_mk (st := s__law_numbers) l15 c15 k15
  have b15 := F15.binds (ps := ["found", "due"]) fun _ _ _ _ _ _ us hl => match us, hl with | [_, _], _ => rfl
  have F16 := fun_mk (st := s__law_levels) l16 c16 k16
  have b16 := F16.binds (ps := ["kept"]) fun _ _ _ _ _ _ us hl => match us, hl with | [_], _ => rfl
  have F17 := fun_mk (st := s__law_right) l17 c17 k17
  have b17 := F17.binds (ps := ["row", "kept"]) fun _ _ _ _ _ _ us hl => match us, hl with | [_, _], _ => rfl
  have F18 := fun_mk (st := s__law_deed) l18 c18 k18
  have b18 := F18.binds (ps := ["row", "kept", "cell", "low"]) fun _ _ _ _ _ _ us hl => match us, hl with | [_, _, _, _], _ => rfl
  have F19 := fun_mk (st := s_law) l19 c19 k19
  have b19 := F19.binds (ps := ["script"]) fun _ _ _ _ _ _ us hl => match us, hl with | [_], _ => rfl
  refine ⟨PySem.W.fnOf "law" "law" (defArgs s_law) (defBody s_law) (defScope s_law) .none kV19 dc19 pm19 an19 cd19 ct19, fun s v => .of_eq rfl, fun base _ _ => ?_⟩
  have c_ask_sky : C8.Cal l.prog w K mg base 1 "ask_sky" (sp_ask_sky K C) [] := ⟨f1, _, ["numbers"], [], ok_ask_sky F1 T , PySem.W.mg_of X G a1, k1, b1, .nil⟩
  have c_Row_numbers : C8.Met l.prog w K mg base 1 C "numbers" (sp_Row_numbers K C) [] := ⟨f2, _, ["self"], [], T.cl, ⟨a2, i2, k2⟩, ok_Row_numbers F2 T , b2, .nil⟩
  have c_water : C8.Cal l.prog w K mg base 2 "water" (sp_water K C) [] := ⟨f3, _, ["row"], [], ok_water F3 T c_ask_sky c_Row_numbers, PySem.W.mg_of X G a3, k3, b3, .nil⟩
  have c_Row : C8.Mak l.prog w K mg base 1 "Row" C (sp_Row___init__ K C) [] := ⟨f4, _, ["self", "numbers"], [], ⟨mk, a4, i4, kc⟩, ok_Row___init__ F4 T , T.mgC, b4, .nil⟩
  have c_Row_ask : C8.Met l.prog w K mg base 1 C "ask" (sp_Row_ask K C) [] := ⟨f5, _, ["self", "place", "many"], [], T.cl, ⟨a5, i5, k5⟩, ok_Row_ask F5 T , b5, .nil⟩
  have c_Row_ask_stretch : C8.Met l.prog w K mg base 1 C "ask_stretch" (sp_Row_ask_stretch K C) [] := ⟨f6, _, ["self", "first", "behind"], [], T.cl, ⟨a6, i6, k6⟩, ok_Row_ask_stretch F6 T , b6, .nil⟩
  have c_Row_set_at : C8.Met l.prog w K mg base 2 C "set_at" (sp_Row_set_at K C) [] := ⟨f7, _, ["self", "place", "number"], [], T.cl, ⟨a7, i7, k7⟩, ok_Row_set_at F7 T c_Row_ask, b7, .nil⟩
  have c_Row_take_out : C8.Met l.prog w K mg base 2 C "take_out" (sp_Row_take_out K C) [] := ⟨f8, _, ["self", "place"], [], T.cl, ⟨a8, i8, k8⟩, ok_Row_take_out F8 T c_Row_ask, b8, .nil⟩
  have c_Row_put_in : C8.Met l.prog w K mg base 2 C "put_in" (sp_Row_put_in K C) [] := ⟨f9, _, ["self", "place", "number"], [], T.cl, ⟨a9, i9, k9⟩, ok_Row_put_in F9 T c_Row_ask, b9, .nil⟩
  have c_Row_add_to : C8.Met l.prog w K mg base 2 C "add_to" (sp_Row_add_to K C) [] := ⟨f10, _, ["self", "first", "behind", "number"], [], T.cl, ⟨a10, i10, k10⟩, ok_Row_add_to F10 T c_Row_ask_stretch, b10, .nil⟩
  have c__law_cell_at : C8.Cal l.prog w K mg base 1 "_law_cell_at" (sp__law_cell_at K C) [] := ⟨f11, _, ["script", "k"], [], ok__law_cell_at F11 T , PySem.W.mg_of X G a11, k11, b11, .nil⟩
  have c__law_whole : C8.Cal l.prog w K mg base 1 "_law_whole" (sp__law_whole K C) [] := ⟨f12, _, ["found"], [], ok__law_whole F12 T , PySem.W.mg_of X G a12, k12, b12, .nil⟩
  have c__law_draw : C8.Cal l.prog w K mg base 1 "_law_draw" (sp__law_draw K C) [] := ⟨f13, _, ["cell", "k", "bound"], [], ok__law_draw F13 T , PySem.W.mg_of X G a13, k13, b13, .nil⟩
  have c__law_row : C8.Cal l.prog w K mg base 2 "_law_row" (sp__law_row K C) [] := ⟨f14, _, ["script", "at", "most"], [], ok__law_row F14 T c__law_draw c__law_cell_at, PySem.W.mg_of X G a14, k14, b14, .nil⟩
  have c__law_numbers : C8.Cal l.prog w K mg base 2 "_law_numbers" (sp__law_numbers K C) [] := ⟨f15, _, ["found", "due"], [], ok__law_numbers F15 T c__law_whole, PySem.W.mg_of X G a15, k15, b15, .nil⟩
  have c__law_levels : C8.Cal l.prog w K mg base 1 "_law_levels" (sp__law_levels K C) [] := ⟨f16, _, ["kept"], [], ok__law_levels F16 T , PySem.W.mg_of X G a16, k16, b16, .nil⟩
  have c__law_right : C8.Cal l.prog w K mg base 3 "_law_right" (sp__law_right K C) [] := ⟨f17, _, ["row", "kept"], [], ok__law_right F17 T c__law_numbers c_water c_Row c__law_levels, PySem.W.mg_of X G a17, k17, b17, .nil⟩
  have c__law_deed : C8.Cal l.prog w K mg base 3 "_law_deed" (sp__law_deed K C) [] := ⟨f18, _, ["row", "kept", "cell", "low"], [], ok__law_deed F18 T c_Row_set_at c_Row_put_in c_Row_take_out c_Row_add_to, PySem.W.mg_of X G a18, k18, b18, .nil⟩
  have z := ok_law (P := l.prog) (w := w) (base := base) F19 T c__law_right c__law_deed c__law_cell_at c_Row c__law_row
  exact z
end VT
open PySem PySem.W PyProof.Rows
set_option maxRecDepth 100000 in
set_option maxHeartbeats 0 in
theorem PySem.Challenge.cw_valleytree_k13_water_holds : PySem.Challenge.rw_valleytree_k13_water.Holds := by
  w_on; o_law; k_head; (case hw => w_witness2)
  k_fill
  refine L2.walk_of (l := PySem.Challenge.rw_valleytree_k13_water) (n := 63) (k := 4) (x := "script") (CX := fun _ => L2.CX0) (sp := fun w => VT.sp_law _ 0) rfl (by decide) rfl ⟨rfl, by decide, by decide⟩ (fun w h Y => PySem.W.kIn_of Y) ?F (fun _ _ a ns hl _ hS => VT.law_in hS hl) (fun _ _ _ _ _ h => h)
  case F =>
    intro w mg fa h KX G hmg
    refine' VT.all_mk KX G hmg ?aC ?pg ?hd ?po ?sa ?mk ?kc ?nK ?a1 ?l1 ?c1 ?k1 ?a2 ?i2 ?l2 ?c2 ?k2 ?a3 ?l3 ?c3 ?k3 ?a4 ?i4 ?l4 ?c4 ?k4 ?a5 ?i5 ?l5 ?c5 ?k5 ?a6 ?i6 ?l6 ?c6 ?k6 ?a7 ?i7 ?l7 ?c7 ?k7 ?a8 ?i8 ?l8 ?c8 ?k8 ?a9 ?i9 ?l9 ?c9 ?k9 ?a10 ?i10 ?l10 ?c10 ?k10 ?a11 ?l11 ?c11 ?k11 ?a12 ?l12 ?c12 ?k12 ?a13 ?l13 ?c13 ?k13 ?a14 ?l14 ?c14 ?k14 ?a15 ?l15 ?c15 ?k15 ?a16 ?l16 ?c16 ?k16 ?a17 ?l17 ?c17 ?k17 ?a18 ?l18 ?c18 ?k18 ?a19 ?l19 ?c19 ?k19 ?z_abs ?z_bool ?z_int ?z_isinstance ?z_len ?z_list ?z_max ?z_min ?z_range ?z_reversed ?g_MOST
    (case aC => k_is)
    (case pg => k_is)
    (case hd => k_is)
    (case po => k_is)
    (case sa => k_is)
    (case mk => k_is)
    (case kc => k_is)
    (case nK => k_is)
    (case a1 => k_is)
    (case l1 => k_is)
    (case c1 => k_is)
    (case k1 => k_is)
    (case a2 => k_is)
    (case i2 => k_is)
    (case l2 => k_is)
    (case c2 => k_is)
    (case k2 => k_is)
    (case a3 => k_is)
    (case l3 => k_is)
    (case c3 => k_is)
    (case k3 => k_is)
    (case a4 => k_is)
    (case i4 => k_is)
    (case l4 => k_is)
    (case c4 => k_is)
    (case k4 => k_is)
    (case a5 => k_is)
    (case i5 => k_is)
    (case l5 => k_is)
    (case c5 => k_is)
    (case k5 => k_is)
    (case a6 => k_is)
    (case i6 => k_is)
    (case l6 => k_is)
    (case c6 => k_is)
    (case k6 => k_is)
    (case a7 => k_is)
    (case i7 => k_is)
    (case l7 => k_is)
    (case c7 => k_is)
    (case k7 => k_is)
    (case a8 => k_is)
    (case i8 => k_is)
    (case l8 => k_is)
    (case c8 => k_is)
    (case k8 => k_is)
    (case a9 => k_is)
    (case i9 => k_is)
    (case l9 => k_is)
    (case c9 => k_is)
    (case k9 => k_is)
    (case a10 => k_is)
    (case i10 => k_is)
    (case l10 => k_is)
    (case c10 => k_is)
    (case k10 => k_is)
    (case a11 => k_is)
    (case l11 => k_is)
    (case c11 => k_is)
    (case k11 => k_is)
    (case a12 => k_is)
    (case l12 => k_is)
    (case c12 => k_is)
    (case k12 => k_is)
    (case a13 => k_is)
    (case l13 => k_is)
    (case c13 => k_is)
    (case k13 => k_is)
    (case a14 => k_is)
    (case l14 => k_is)
    (case c14 => k_is)
    (case k14 => k_is)
    (case a15 => k_is)
    (case l15 => k_is)
    (case c15 => k_is)
    (case k15 => k_is)
    (case a16 => k_is)
    (case l16 => k_is)
    (case c16 => k_is)
    (case k16 => k_is)
    (case a17 => k_is)
    (case l17 => k_is)
    (case c17 => k_is)
    (case k17 => k_is)
    (case a18 => k_is)
    (case l18 => k_is)
    (case c18 => k_is)
    (case k18 => k_is)
    (case a19 => k_is)
    (case l19 => k_is)
    (case c19 => k_is)
    (case k19 => k_is)
    (case z_abs => k_is)
    (case z_bool => k_is)
    (case z_int => k_is)
    (case z_isinstance => k_is)
    (case z_len => k_is)
    (case z_list => k_is)
    (case z_max => k_is)
    (case z_min => k_is)
    (case z_range => k_is)
    (case z_reversed => k_is)
    (case g_MOST => k_is)
#print axioms PySem.Challenge.cw_valleytree_k13_water_holds
