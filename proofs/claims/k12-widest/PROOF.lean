import PyProof.Rows.All
import Wide.All
import OpenK.AllK
import Wide.FinOn
import HandS.ForMost
import HandS.Codes
import HandS.More
import HandS.Conv
import HandS.IsInst
import HandS.Wide
import HandS.SortInts
import HandS.RevRange
import HandS.Style
import PyProof.SeqIndex
import KE.DataMinMax
import KE.SortData
import HandS.Rev
import PySem.Challenge.RW_valleytree_k12_widest_blocks
set_option Elab.async false
set_option linter.all false
set_option maxRecDepth 100000
set_option maxHeartbeats 4000000
/-! ### a layer of small steps over the hand layer -/
namespace VT
open PySem PySem.Spec PyProof.Rows L2
theorem same_new {H : Hp} {p : Addr} (h : H p = none) (o : HO) : Same H (upd H p o) := fun b u q => by
  rw [upd_ne (ne_of_none q h)]
  exact q
theorem same_mut {H H' : Hp} {p : Addr} {o : HO} (e : Same H H') (h : H p = none) : Same H (upd H' p o) := fun b u q => by
  rw [upd_ne (ne_of_none q h)]
  exact e b u q
theorem same_new2 {H H' : Hp} {p : Addr} {o : HO} (e : Same H H') (h : H' p = none) : Same H (upd H' p o) := e.trans (same_new h o)
/-- all but what stands at l is as it was -/
def But (l : Addr) (H H' : Hp) : Prop := ∀ b o, H b = some o → b ≠ l → H' b = some o
theorem But.of {l : Addr} {H H' : Hp} (e : Same H H') : But l H H' := fun b o q _ => e b o q
theorem But.up {l : Addr} {H H' : Hp} {o : HO} (e : But l H H') : But l H (upd H' l o) := fun b u q n => by
  rw [upd_ne n]
  exact e b u q n
theorem But.trans {l : Addr} {H H1 H2 : Hp} (a : But l H H1) (b : But l H1 H2) : But l H H2 := fun c o h n => b c o (a c o h n) n
theorem But.same {l : Addr} {H H' : Hp} (e : But l H H') (h : H l = none) : Same H H' := fun b o q => e b o q (ne_of_none q h)
theorem same_but {l : Addr} {H H1 H2 : Hp} (a : Same H H1) (b : But l H1 H2) (c : H l = none) : Same H H2 := fun p o q => b p o (a p o q) (ne_of_none q c)
theorem But.get {l b : Addr} {o : HO} {H H' : Hp} (e : But l H H') (n : b ≠ l) (h : H b = some o) : H' b = some o := e b o h n
theorem Same.get {b : Addr} {o : HO} {H H' : Hp} (e : Same H H') (h : H b = some o) : H' b = some o := e b o h
theorem up_get {b p : Addr} {o u : HO} {H : Hp} (n : b ≠ p) (h : H b = some o) : upd H p u b = some o := by
  rw [upd_ne n]
  exact h
theorem ne_new {H : Hp} {a b : Addr} {o : HO} (h' : H b = none) (h : H a = some o) : a ≠ b := ne_of_none h h'
theorem ne_new' {H : Hp} {a b : Addr} {o : HO} (h' : H b = none) (h : H a = some o) : b ≠ a := (ne_of_none h h').symm
theorem up_free {H : Hp} {a b : Addr} {o : HO} (n : a ≠ b) (h : H a = none) : upd H b o a = none := by
  rw [upd_ne n]
  exact h
theorem SqL.lst {K : PySem.W.Frag} {H : Hp} {a : Addr} {xs : List V} (h : H a = some (.lst xs)) : SqL K H a xs := .inl (.inl h)
theorem SqT.tup {K : PySem.W.Frag} {H : Hp} {a : Addr} {xs : List V} (h : H a = some (.tup xs)) : SqT K H a xs := .inl (.inl h)
theorem same_seqT {K : PySem.W.Frag} {H H' : Hp} {a : Addr} {xs : List V} (e : Same H H') (h : SqT K H a xs) : SqT K H' a xs := by
  rcases h with (h | ⟨o, h⟩) | h
  · exact .inl (.inl (e _ _ h))
  · exact .inl (.inr ⟨o, e _ _ h⟩)
  · exact .inr h
/-- a readable list is not at a place that is new -/
theorem But.seq {K : PySem.W.Frag} {H H' : Hp} {a l : Addr} {xs : List V} (e : But l H H') (n : a ≠ l) (h : SqL K H a xs) : SqL K H' a xs := by
  rcases h with (h | ⟨o, h⟩) | h
  · exact .inl (.inl (e _ _ h n))
  · exact .inl (.inr ⟨o, e _ _ h n⟩)
  · exact .inr h
theorem sz {n : Nat} (h : n ≤ 1000000) : n ≤ sizeLine := Nat.le_trans h (by decide)
theorem szl {n : Nat} (h : n ≤ 1000000) : n < sizeLine := Nat.lt_of_le_of_lt h (by decide)

/-! ### names for the rules' readings -/
def rLen (K : PySem.W.Frag) : List V → Hp → VK → Prop := fun xs H Q => ∃ p ys, xs = [.ref p] ∧ (SqL K H p ys ∨ SqT K H p ys) ∧ Q (.int ys.length) H
def rListOf (K : PySem.W.Frag) : List V → Hp → VK → Prop := fun xs H Q => ∃ p ys, xs = [.ref p] ∧ (SqL K H p ys ∨ SqT K H p ys) ∧ ∀ l, H l = none → Q (.ref l) (upd H l (.lst ys))
def rMin2 : List V → Hp → VK → Prop := fun xs H Q => ∃ i j, xs = [.int i, .int j] ∧ Q (.int (if j < i then j else i)) H
def rMax2 : List V → Hp → VK → Prop := fun xs H Q => ∃ i j, xs = [.int i, .int j] ∧ Q (.int (if j > i then j else i)) H
def rAbs : List V → Hp → VK → Prop := fun xs H Q => ∃ i, xs = [.int i] ∧ Q (.int (if i < 0 then -i else i)) H
def rIsN : R2 := fun x y H Q => y = .non ∧ Q (.bl (decide (x = .non))) H
def rNotN : R2 := fun x y H Q => y = .non ∧ Q (.bl (!decide (x = .non))) H
def rIns : V → List V → Hp → VK → Prop := fun x vs H Q => ∃ (l : Addr) (xs : List V) (i : Int) (y : V), x = .ref l ∧ vs = [.int i, y] ∧ H l = some (.lst xs) ∧ xs.length < sizeLine ∧ 0 ≤ i ∧ i < 2 ^ 63 ∧ Q .non (upd H l (.lst (xs.take i.toNat ++ [y] ++ xs.drop i.toNat)))
section
variable {X : Cx}
theorem c_len : CallR X (.builtin "len") (rLen X.K) := call_len_seq
theorem c_listOf : CallR X (.type "list") (rListOf X.K) := call_list_of
theorem c_min2 (hc : X.calm = true) : CallR X (.builtin "min") rMin2 := call_min2 hc
theorem c_max2 (hc : X.calm = true) : CallR X (.builtin "max") rMax2 := call_max2 hc
theorem c_abs : CallR X (.builtin "abs") rAbs := call_abs
theorem o_isN : OpR X (compareOp .Is) rIsN := op_isN
theorem o_notN : OpR X (compareOp .IsNot) rNotN := op_notN
/-- the rules at a written part that is told (within a comprehension) -/
theorem ixL {K : PySem.W.Frag} (h : X.K = K) : IxR X (rIxL K) := by
  subst h
  exact ix_list
theorem ixT {K : PySem.W.Frag} (h : X.K = K) : IxR X (rIxT K) := by
  subst h
  exact ix_tup
theorem inS {K : PySem.W.Frag} (h : X.K = K) : OpR X (compareOp .In) (rIn K false) := by
  subst h
  exact op_in_seq
theorem eqD {K : PySem.W.Frag} (h : X.K = K) (hu : X.A.units + 64 < cLine) : OpR X (compareOp .Eq) (rEqD K) := by
  subst h
  exact op_eqD hu
/-- xs.index(y, i), xs a list of numbers, y there at i or behind: the first such place -/
def rIndex3 (K : PySem.W.Frag) : V → List V → Hp → VK → Prop := fun x xs H Q => ∃ (a : Addr) (ns : List Int) (y i : Int) (j : Nat), x = .ref a ∧ xs = [.int y, .int i] ∧ SqL K H a (ns.map V.int) ∧ 0 ≤ i ∧ i.toNat ≤ j ∧ ns[j]? = some y ∧ (∀ m : Nat, i.toNat ≤ m → m < j → ns[m]? ≠ some y) ∧ Q (.int (j : Nat)) H
theorem mt_index3 : MtR X "list.index" (rIndex3 X.K) := by
  intro pins s σ H x xs v us Q I rx rxs h
  obtain ⟨a, ns, y, i, j, rfl, rfl, hs, i0, hij, hj, hno, q⟩ := h
  cases rx
  obtain ⟨u1, u2, rfl, r1, r2⟩ := vals2 rxs
  obtain ⟨t1, rfl⟩ := r1
  obtain ⟨t2, rfl⟩ := r2
  obtain ⟨its, rv, ⟨⟨cls, dd, data, sl⟩, n, ho, hc, hdn, hd⟩, hlen⟩ := I.list hs
  simp only at hc hd
  subst hc hd
  have hvl := rv.length
  rw [List.length_map] at hvl
  have hjl : j < ns.length := (List.getElem?_eq_some_iff.mp hj).1
  have hsl := sizeLine_eq
  have hlen' : (ns.map V.int).length ≤ sizeLine := by
    first
      | exact hlen
      | (rw [List.length_map]; rw [hvl]; exact hlen)
  rw [List.length_map, hsl] at hlen'
  have hsf : SeqAt.searchFrom i its.toArray.size = i.toNat := SeqAt.searchFrom_nonneg i0 _
  refine call_meets PySem.F.slot_list_index ⟨_, ho, rfl⟩ PySem.F.entry_list_index (PySem.F.args_list_index_3 _ _ _)
    (SeqAt.list_index3_found a its.toArray n dd sl (.int y t1) (fun m => decide (ns[m]? = some y)) i t2 j (by rw [List.size_toArray]; omega) (by rw [hsf]; exact hij) (by omega) (decide_eq_true hj) ?_) ⟨ho, fun m hm => ?_, ?_⟩
  · intro m hm h1 h2
    rw [hsf] at h1
    exact decide_eq_false (hno m h1 h2)
  · have hml : m < its.length := by simpa using hm
    have hmn : m < ns.length := by omega
    have hm' : (ns.map V.int)[m]? = some (V.int ns[m]) := by rw [List.getElem?_map, List.getElem?_eq_getElem hmn] <;> rfl
    obtain ⟨u2, hu2, ru2⟩ := rv.get hm'
    obtain ⟨hm1, hme⟩ := List.getElem?_eq_some_iff.mp hu2
    obtain ⟨tm, rfl⟩ := ru2
    have e1 : its.toArray[m] = .int ns[m] tm := by simpa using hme
    have hq := mem_eqAt (A := X.A.in1) (s := s) (x := V.int y) (v := .int y t1) ⟨t1, rfl⟩ rfl rv (by rw [List.all_map]; exact List.all_eq_true.mpr fun _ _ => rfl) its.toArray[m] (by simp)
    have e2 : eqU (V.int y) its.toArray[m] = decide (ns[m]? = some y) := by
      rw [e1, List.getElem?_eq_getElem hmn]
      show (ns[m] == y) = _
      by_cases h : ns[m] = y
      · rw [h, beq_self_eq_true, decide_eq_true rfl]
      · rw [beq_eq_false_iff_ne.mpr h, decide_eq_false (fun z => h (Option.some.inj z))]
    rw [e2] at hq
    exact hq
  · exact ⟨.int (j : Nat), H, I.tok _, ⟨_, rfl⟩, q⟩
/-- xs.count(y), flat items -/
def rCountV (K : PySem.W.Frag) : V → List V → Hp → VK → Prop := fun x xs H Q => ∃ (a : Addr) (ys : List V) (y : V), x = .ref a ∧ xs = [y] ∧ SqL K H a ys ∧ flatV y = true ∧ ys.all flatV = true ∧ Q (.int (ys.countP (fun z => eqV z y) : Nat)) H
theorem countP_rel {y : V} : ∀ {ys : List V} {its : List Value}, Vals ys its → ys.all flatV = true → its.countP (eqU y) = ys.countP (fun z => eqV z y)
  | _, _, .nil, _ => rfl
  | x :: ys, u :: us, .cons r t, f => by
    rw [List.all_cons, Bool.and_eq_true] at f
    rw [List.countP_cons, List.countP_cons, countP_rel t f.2, eqU_of r f.1]
theorem mt_countV : MtR X "list.count" (rCountV X.K) := by
  intro pins s σ H x xs v us Q I rx rxs h
  obtain ⟨a, ys, y, rfl, rfl, hs, fy, fys, q⟩ := h
  cases rx
  obtain ⟨u, rfl, ru⟩ := rxs.one
  obtain ⟨its, rv, ⟨⟨cls, dd, data, sl⟩, n, ho, hc, hdn, hd⟩, hlen⟩ := I.list hs
  simp only at hc hd
  subst hc hd
  refine call_meets PySem.F.slot_list_count ⟨_, ho, rfl⟩ PySem.F.entry_list_count (PySem.F.args_list_count_2 _ _)
    (SeqAt.list_countAt a its.toArray n dd sl u (eqU y)) ⟨ho, fun z hz => mem_eqAt ru fy rv fys z (by simpa using hz), ?_⟩
  have ec : its.toArray.toList.countP (eqU y) = ys.countP (fun z => eqV z y) := countP_rel rv fys
  refine ⟨.int (ys.countP (fun z => eqV z y) : Nat), H, I.tok _, ⟨s.toks, ?_⟩, q⟩
  show Value.int ((its.toArray.toList.countP (eqU y) : Nat) : Int) s.toks = Value.int ((ys.countP (fun z => eqV z y) : Nat) : Int) s.toks
  rw [ec]
/-- a op1 b op2 c op3 d -/
def tChain3 (r r' r2 : R2) (ta tb tc td : TE) : TE := fun σ H Q => ta σ H fun x H1 => tb σ H1 fun y H2 => r x y H2 fun z H3 => ∃ k, z = .bl k ∧
  (if k = true then tc σ H3 fun w' H4 => r' y w' H4 fun z' H5 => ∃ k', z' = .bl k' ∧ (if k' = true then td σ H5 fun w2 H6 => r2 w' w2 H6 Q else Q (.bl false) H5) else Q (.bl false) H3)
theorem pt_chain3 {op op' op2 : CmpOp} {r r' r2 : R2} {a b c d : Expr} {ta tb tc td : TE} {pos : Pos} (ho : OpR X (compareOp op) r) (ho' : OpR X (compareOp op') r') (ho2 : OpR X (compareOp op2) r2) (ha : PE X a ta) (hb : PE X b tb) (hc : PE X c tc) (hd : PE X d td)
    (hm : lastMarks [op, op', op2] [b, c, d] = false := by with_unfolding_all rfl) : PT X (.Compare a [op, op', op2] [b, c, d] pos) (tTest (tChain3 r r' r2 ta tb tc td)) := by
  refine ⟨fun pins s σ H Q I h => ?_⟩
  refine isTrue_chain (thn (ha.run pins s σ H _ I h) fun v s1 ⟨x, H1, I1, r1, q1⟩ => test_link (thn (hb.run pins s1 σ H1 _ I1 q1) fun u s2 ⟨y, H2, I2, rr2, q2⟩ =>
    thn (ho pins s2 σ H2 x y v u _ I2 r1 rr2 q2) fun e s3 ⟨z, H3, I3, r3, k, ez, q3⟩ => ?_)) hm
  subst ez
  cases r3
  refine wpAny_truthy_bool ?_
  cases k with
  | false =>
    obtain ⟨k', e', q'⟩ := q3
    cases e'
    exact ite_ff ⟨H3, I3, q'⟩
  | true =>
    refine ite_tt (test_link (thn (hc.run pins s3 σ H3 _ I3 q3) fun w' s4 ⟨z', H4, I4, r4, q4⟩ => thn (ho' pins s4 σ H4 y z' u w' _ I4 rr2 r4 q4) fun d' s5 ⟨z2, H5, I5, r5, k2, e2, q5⟩ => ?_))
    subst e2
    cases r5
    refine wpAny_truthy_bool ?_
    cases k2 with
    | false =>
      obtain ⟨k', e', q'⟩ := q5
      cases e'
      exact ite_ff ⟨H5, I5, q'⟩
    | true =>
      refine ite_tt (test_last (thn (hd.run pins s5 σ H5 _ I5 q5) fun w2 s6 ⟨z3, H6, I6, r6, q6⟩ => thn (ho2 pins s6 σ H6 z' z3 w' w2 _ I6 r4 r6 q6) fun d2 s7 ⟨z4, H7, I7, r7, k3, e3, q7⟩ => ?_))
      subst e3
      cases r7
      exact wpAny_truthy_bool ⟨H7, I7, q7⟩
theorem m_insert : MtR X "list.insert" rIns := mt_insert
end
section
variable {σ : L2.St} {H : Hp} {Q : VK} {D : Ends} {ta tb tc te : TE} {t u : TS} {tt tu : TT} {K : PySem.W.Frag}
variable {nx bk ct : L2.St → Hp → Prop} {rt : VK}
theorem r_seq (h : t ⟨u ⟨nx, rt, bk, ct⟩, rt, bk, ct⟩ σ H) : tSeq t u ⟨nx, rt, bk, ct⟩ σ H := h
theorem r_cut (M : L2.St → Hp → Prop) (h : t ⟨M, rt, bk, ct⟩ σ H) (k : ∀ σ' H', M σ' H' → u ⟨nx, rt, bk, ct⟩ σ' H') : C8.tCut t u ⟨nx, rt, bk, ct⟩ σ H := ⟨M, h, k⟩
theorem r_next (h : nx σ H) : tNext ⟨nx, rt, bk, ct⟩ σ H := h
theorem r_asg {g : TG} (h : te σ H fun x H1 => g x σ H1 nx) : tAsg te g ⟨nx, rt, bk, ct⟩ σ H := h
theorem r_name {i : Nat} {v : V} {N : L2.St → Hp → Prop} (h : N (σ.set i (some v)) H) : gName i v σ H N := h
theorem r_sub {to ti : TE} {g : V → V → V → Hp → (Hp → Prop) → Prop} {v : V} {N : L2.St → Hp → Prop} (h : to σ H fun o H1 => ti σ H1 fun i H2 => g o i v H2 fun H3 => N σ H3) : gSub to ti g v σ H N := h
theorem r_drop (h : te σ H fun _ H1 => nx σ H1) : tDrop te ⟨nx, rt, bk, ct⟩ σ H := h
theorem r_ret (h : te σ H rt) : tRet te ⟨nx, rt, bk, ct⟩ σ H := h
theorem r_retN (h : rt .non H) : tRetN ⟨nx, rt, bk, ct⟩ σ H := h
theorem r_if {tc : TT} (h : tc σ H fun b H1 => if b = true then t ⟨nx, rt, bk, ct⟩ σ H1 else u ⟨nx, rt, bk, ct⟩ σ H1) : tIfS tc t u ⟨nx, rt, bk, ct⟩ σ H := h
theorem r_var {i : Nat} {v : V} (h : σ[i]? = some (some v)) (q : Q v H) : tVar i σ H Q := ⟨v, h, q⟩
theorem r_c {v : V} (q : Q v H) : tC v σ H Q := q
theorem r_op {r : R2} (h : ta σ H fun x H1 => tb σ H1 fun y H2 => r x y H2 Q) : tOp r ta tb σ H Q := h
theorem r_un {r : V → Hp → VK → Prop} (h : ta σ H fun x H1 => r x H1 Q) : tUn r ta σ H Q := h
theorem r_chain {r r' : R2} (h : ta σ H fun x H1 => tb σ H1 fun y H2 => r x y H2 fun z H3 => ∃ k, z = .bl k ∧ (if k = true then tc σ H3 fun w' H4 => r' y w' H4 Q else Q (.bl false) H3)) : tChain r r' ta tb tc σ H Q := h
theorem r_chain3 {r r' r2 : R2} {td : TE} (h : ta σ H fun x H1 => tb σ H1 fun y H2 => r x y H2 fun z H3 => ∃ k, z = .bl k ∧
  (if k = true then tc σ H3 fun w' H4 => r' y w' H4 fun z' H5 => ∃ k', z' = .bl k' ∧ (if k' = true then td σ H5 fun w2 H6 => r2 w' w2 H6 Q else Q (.bl false) H5) else Q (.bl false) H3)) : tChain3 r r' r2 ta tb tc td σ H Q := h
theorem r_sFld {f : Str} (h : te σ H fun y H1 => ta σ H1 fun x H2 => ∃ a C dx fs, x = .ref a ∧ H2 a = some (.ins C dx fs) ∧ Cls K C ∧ NoAttr K C f ∧ fs.length < 1000 ∧ nx σ (upd H2 a (.ins C dx (putF f y fs)))) : sFld K ta te f ⟨nx, rt, bk, ct⟩ σ H := h
theorem r_test {N : Bool → Hp → Prop} (h : te σ H fun x H' => ∃ k, x = .bl k ∧ N k H') : tTest te σ H N := h
theorem r_B {N : Bool → Hp → Prop} (h : te σ H fun x H' => ∃ k, x = .bl k ∧ N k H') : tB te σ H N := h
theorem r_bl {b : Bool} {N : Bool → Prop} (h : N b) : ∃ k, V.bl b = V.bl k ∧ N k := ⟨b, rfl, h⟩
theorem r_not {N : Bool → Hp → Prop} (h : tt σ H fun c H1 => N (!c) H1) : tNot tt σ H N := h
theorem r_and {N : Bool → Hp → Prop} (h : tt σ H fun c H1 => if c = true then tu σ H1 N else N false H1) : tAnd tt tu σ H N := h
theorem r_or {N : Bool → Hp → Prop} (h : tt σ H fun c H1 => if c = true then N true H1 else tu σ H1 N) : tOr tt tu σ H N := h
theorem r_andV (h : ta σ H fun x H1 => ∃ c, x = .bl c ∧ if c = true then tb σ H1 Q else Q (.bl false) H1) : tAndV ta tb σ H Q := h
theorem r_orV (h : ta σ H fun x H1 => ∃ c, x = .bl c ∧ if c = true then Q (.bl true) H1 else tb σ H1 Q) : tOrV ta tb σ H Q := h
theorem r_notV (h : ta σ H fun x H1 => ∃ c, x = .bl c ∧ Q (.bl (!c)) H1) : tNotV ta σ H Q := h
theorem r_ifE {c : TT} (h : c σ H fun b H1 => if b = true then ta σ H1 Q else tb σ H1 Q) : tIf c ta tb σ H Q := h
theorem r_cons {tr : TA} {N : List V → Hp → Prop} (h : ta σ H fun x H1 => tr σ H1 fun xs H2 => N (x :: xs) H2) : tCons ta tr σ H N := h
theorem r_nil {N : List V → Hp → Prop} (h : N [] H) : tNil σ H N := h
theorem r_lst {tr : TA} (h : tr σ H fun xs H1 => xs.length ≤ sizeLine ∧ ∀ p, H1 p = none → Q (.ref p) (upd H1 p (.lst xs))) : tLst tr σ H Q := h
theorem r_tup {tr : TA} (h : tr σ H fun xs H1 => xs.length ≤ sizeLine ∧ ∀ p, H1 p = none → Q (.ref p) (upd H1 p (.tup xs))) : tTup tr σ H Q := h
theorem r_CB {tr : TA} {r : List V → Hp → VK → Prop} (h : tr σ H fun vs H1 => r vs H1 Q) : tCB r tr σ H Q := h
theorem r_call {tr : TA} {sp : Sp} {dvs : List V} {E : XK} (h : tr σ H fun vs H1 => sp (vs ++ dvs) H1 Q E) : tCall sp dvs E tr σ H Q := h
theorem r_sl {r : V → Option Int → Option Int → Hp → VK → Prop} {tl th : TO} (h : te σ H fun x H1 => tl σ H1 fun lo H2 => th σ H2 fun hi H3 => r x lo hi H3 Q) : tSl r te tl th σ H Q := h
theorem r_part {N : Option Int → Hp → Prop} (h : te σ H fun x H1 => ∃ i, x = .int i ∧ N (some i) H1) : tPart te σ H N := h
theorem r_int {i : Int} {N : Int → Prop} (h : N i) : ∃ k, V.int i = V.int k ∧ N k := ⟨i, rfl, h⟩
theorem r_noPart {N : Option Int → Hp → Prop} (h : N none H) : tNoPart σ H N := h
theorem r_bm {T : String} {r : V → List V → Hp → VK → Prop} {tr : TA} (h : te σ H fun x H1 => tyV K T x H1 ∧ tr σ H1 fun xs H2 => r x xs H2 Q) : tBM K T r te tr σ H Q := h
theorem r_bm0 {T : String} {r : V → List V → Hp → VK → Prop} (h : te σ H fun x H1 => tyV K T x H1 ∧ r x [] H1 Q) : tBM0 K T r te σ H Q := h
theorem r_fld {f : Str} (h : ta σ H fun x H1 => ∃ a C dx fs v, x = .ref a ∧ H1 a = some (.ins C dx fs) ∧ Cls K C ∧ NoAttr K C f ∧ fs.lookup f = some v ∧ Q v H1) : tFld K ta f σ H Q := h
theorem r_I0 {g : Int → Int → V} {i j : Int} (h : Q (g i j) H) : rI0 g (.int i) (.int j) H Q := ⟨i, j, rfl, rfl, h⟩
theorem r_I {C : Int → Int → Prop} {g : Int → Int → V} {i j : Int} (hc : C i j) (h : Q (g i j) H) : rI C g (.int i) (.int j) H Q := ⟨i, j, rfl, rfl, hc, h⟩
theorem r_U {g : Int → V} {i : Int} (h : Q (g i) H) : rU g (.int i) H Q := ⟨i, rfl, h⟩
/-- a Row: its attributes, where it stands -/
def rowF (l : Addr) : List (Str × V) := [("kept", .ref l)]
def RowOb (C : Addr) (H : Hp) (p l : Addr) : Prop := ∃ dx, H p = some (.ins C dx (rowF l))
theorem r_meth {C : Addr} {m : Str} {sp : Sp} {dvs : List V} {E : XK} {tr : TA} (h : ta σ H fun x H1 => ∃ a dx fs, x = .ref a ∧ H1 a = some (.ins C dx fs) ∧ fs.lookup m = none ∧ tr σ H1 fun vs H2 => sp (x :: (vs ++ dvs)) H2 Q E) : tMeth C m sp dvs E ta tr σ H Q := h
theorem r_make {C : Addr} {sp : Sp} {dvs : List V} {E : XK} {tr : TA} (h : tr σ H fun vs H1 => ∀ x dx, H1 x = none → H1 dx = none → dx ≠ x → sp (.ref x :: (vs ++ dvs)) (upd (upd H1 dx (.own x)) x (.ins C dx [])) (fun v H2 => v = .non ∧ Q (.ref x) H2) E) : tMake C sp dvs E tr σ H Q := h
theorem rowF_kept (l : Addr) : (rowF l).lookup ("kept" : Str) = some (.ref l) := by
  unfold rowF
  rw [List.lookup_cons]
  simp
theorem rowF_no (l : Addr) {m : Str} (h : ¬ m = "kept") : (rowF l).lookup m = none := by
  unfold rowF
  rw [List.lookup_cons]
  have e : (m == ("kept" : Str)) = false := by simpa using h
  rw [e]
  rfl
theorem r_fldR {p l C dx : Addr} (h : H p = some (.ins C dx (rowF l))) (c : Cls K C) (n : NoAttr K C "kept") {N : V → Prop} (q : N (.ref l)) : ∃ a C dx fs v, V.ref p = .ref a ∧ H a = some (.ins C dx fs) ∧ Cls K C ∧ NoAttr K C "kept" ∧ fs.lookup ("kept" : Str) = some v ∧ N v := ⟨p, C, dx, rowF l, _, rfl, h, c, n, rowF_kept l, q⟩
theorem r_methR {p l C dx : Addr} {m : Str} {N : Prop} (h : H p = some (.ins C dx (rowF l))) (hm : ¬ m = "kept") (q : N) : ∃ a dx fs, V.ref p = .ref a ∧ H a = some (.ins C dx fs) ∧ fs.lookup m = none ∧ N := ⟨p, dx, rowF l, rfl, h, rowF_no l hm, q⟩
theorem r_new {n : Nat} {N : Addr → Prop} (z : n ≤ 1000000) (q : ∀ p, H p = none → N p) : n ≤ sizeLine ∧ ∀ p, H p = none → N p := ⟨sz z, q⟩
theorem dec_int {i j : Int} : decide (V.int i = V.int j) = decide (i = j) := by
  by_cases h : i = j
  · rw [h, decide_eq_true rfl, decide_eq_true rfl]
  · rw [decide_eq_false h, decide_eq_false (fun e => h (V.int.inj e))]
theorem dec_bl {i j : Bool} : decide (V.bl i = V.bl j) = decide (i = j) := by
  by_cases h : i = j
  · rw [h, decide_eq_true rfl, decide_eq_true rfl]
  · rw [decide_eq_false h, decide_eq_false (fun e => h (V.bl.inj e))]
theorem r_eqI {i j : Int} (h : Q (.bl (decide (i = j))) H) : rEq (.int i) (.int j) H Q := ⟨rfl, by rw [dec_int]; exact h⟩
theorem r_neI {i j : Int} (h : Q (.bl (!decide (i = j))) H) : rNe (.int i) (.int j) H Q := ⟨rfl, by rw [dec_int]; exact h⟩
theorem r_eqB {i j : Bool} (h : Q (.bl (decide (i = j))) H) : rEq (.bl i) (.bl j) H Q := ⟨rfl, by rw [dec_bl]; exact h⟩
theorem r_neB {i j : Bool} (h : Q (.bl (!decide (i = j))) H) : rNe (.bl i) (.bl j) H Q := ⟨rfl, by rw [dec_bl]; exact h⟩
theorem r_isN {x : V} (h : Q (.bl (decide (x = .non))) H) : rIsN x .non H Q := ⟨rfl, h⟩
theorem r_notN {x : V} (h : Q (.bl (!decide (x = .non))) H) : rNotN x .non H Q := ⟨rfl, h⟩
/-- branches -/
theorem br {b : Bool} {A B : Prop} (h1 : b = true → A) (h2 : b = false → B) : if b = true then A else B := by
  cases b with
  | true => exact iteT (h1 rfl)
  | false => exact iteF (h2 rfl)
theorem brD {p : Prop} [Decidable p] {A B : Prop} (h1 : p → A) (h2 : ¬ p → B) : if decide p = true then A else B := by
  by_cases h : p
  · rw [if_pos (decide_eq_true h)]
    exact h1 h
  · rw [if_neg (by rw [decide_eq_false h]; exact Bool.false_ne_true)]
    exact h2 h
theorem brN {p : Prop} [Decidable p] {A B : Prop} (h1 : ¬ p → A) (h2 : p → B) : if (!decide p) = true then A else B := by
  by_cases h : p
  · rw [if_neg (by rw [decide_eq_true h]; exact Bool.false_ne_true)]
    exact h2 h
  · rw [if_pos (by rw [decide_eq_false h]; rfl)]
    exact h1 h
theorem brT {p : Prop} [Decidable p] {A B : Prop} (h : p) (h1 : A) : if decide p = true then A else B := brD (fun _ => h1) (fun n => absurd h n)
theorem brF {p : Prop} [Decidable p] {A B : Prop} (h : ¬ p) (h1 : B) : if decide p = true then A else B := brD (fun n => absurd n h) (fun _ => h1)
theorem brNT {p : Prop} [Decidable p] {A B : Prop} (h : ¬ p) (h1 : A) : if (!decide p) = true then A else B := brN (fun _ => h1) (fun n => absurd n h)
theorem brNF {p : Prop} [Decidable p] {A B : Prop} (h : p) (h1 : B) : if (!decide p) = true then A else B := brN (fun n => absurd h n) (fun _ => h1)
/-- and, or of two tests that leave the heap: one answer -/
theorem r_andD {p q : Bool} {N : Bool → Hp → Prop} (h1 : ∀ Z : Bool → Hp → Prop, Z p H → tt σ H Z) (h2 : ∀ Z : Bool → Hp → Prop, Z q H → tu σ H Z) (h : N (p && q) H) : tAnd tt tu σ H N := by
  refine h1 _ ?_
  cases p with
  | true => exact iteT (h2 _ h)
  | false => exact iteF h
theorem r_orD {p q : Bool} {N : Bool → Hp → Prop} (h1 : ∀ Z : Bool → Hp → Prop, Z p H → tt σ H Z) (h2 : ∀ Z : Bool → Hp → Prop, Z q H → tu σ H Z) (h : N (p || q) H) : tOr tt tu σ H N := by
  refine h1 _ ?_
  cases p with
  | true => exact iteT h
  | false => exact iteF (h2 _ h)
theorem brA {p q : Prop} [Decidable p] [Decidable q] {A B : Prop} (h1 : p → q → A) (h2 : ¬ (p ∧ q) → B) : if (decide p && decide q) = true then A else B := by
  by_cases hp : p
  · by_cases hq : q
    · rw [decide_eq_true hp, decide_eq_true hq]
      exact iteT (h1 hp hq)
    · rw [decide_eq_false hq, Bool.and_false]
      exact iteF (h2 fun z => hq z.2)
  · rw [decide_eq_false hp, Bool.false_and]
    exact iteF (h2 fun z => hp z.1)
theorem brO {p q : Prop} [Decidable p] [Decidable q] {A B : Prop} (h1 : p ∨ q → A) (h2 : ¬ p → ¬ q → B) : if (decide p || decide q) = true then A else B := by
  by_cases hp : p
  · rw [decide_eq_true hp, Bool.true_or]
    exact iteT (h1 (.inl hp))
  · by_cases hq : q
    · rw [decide_eq_true hq, Bool.or_true]
      exact iteT (h1 (.inr hq))
    · rw [decide_eq_false hp, decide_eq_false hq]
      exact iteF (h2 hp hq)
theorem r_len {p : Addr} {ys : List V} (h : SqL K H p ys) (q : Q (.int (ys.length : Int)) H) : rLen K [.ref p] H Q := ⟨p, ys, rfl, .inl h, q⟩
theorem r_lenI {p : Addr} {ns : List Int} (h : SqL K H p (ns.map V.int)) (q : Q (.int (ns.length : Int)) H) : rLen K [.ref p] H Q := ⟨p, _, rfl, .inl h, by rw [List.length_map]; exact q⟩
theorem r_lenT {p : Addr} {ys : List V} (h : SqT K H p ys) (q : Q (.int (ys.length : Int)) H) : rLen K [.ref p] H Q := ⟨p, ys, rfl, .inr h, q⟩
theorem r_listOf {p : Addr} {ys : List V} (h : SqL K H p ys) (q : ∀ l, H l = none → Q (.ref l) (upd H l (.lst ys))) : rListOf K [.ref p] H Q := ⟨p, ys, rfl, .inl h, q⟩
theorem r_index3 {a : Addr} {ns : List Int} {y i : Int} {j : Nat} (h : SqL K H a (ns.map V.int)) (h0 : 0 ≤ i) (h1 : i.toNat ≤ j) (hj : ns[j]? = some y) (hn : ∀ m : Nat, i.toNat ≤ m → m < j → ns[m]? ≠ some y) (q : Q (.int (j : Nat)) H) : rIndex3 K (.ref a) [.int y, .int i] H Q := ⟨a, ns, y, i, j, rfl, rfl, h, h0, h1, hj, hn, q⟩
theorem r_min {a : Addr} {ns : List Int} (h : SqL K H a (ns.map V.int)) (hn : 0 < ns.length) (q : ∀ m, m ∈ ns → (∀ x, x ∈ ns → m ≤ x) → Q (.int m) H) : rMin K [.ref a] H Q := ⟨a, ns, rfl, h, hn, q⟩
theorem r_max {a : Addr} {ns : List Int} (h : SqL K H a (ns.map V.int)) (hn : 0 < ns.length) (q : ∀ m, m ∈ ns → (∀ x, x ∈ ns → x ≤ m) → Q (.int m) H) : rMax K [.ref a] H Q := ⟨a, ns, rfl, h, hn, q⟩
theorem r_sum {a : Addr} {ns : List Int} (h : SqL K H a (ns.map V.int)) (q : Q (.int ns.sum) H) : rSum K [.ref a] H Q := ⟨a, ns, rfl, h, q⟩
theorem r_min2 {i j : Int} (q : Q (.int (if j < i then j else i)) H) : rMin2 [.int i, .int j] H Q := ⟨i, j, rfl, q⟩
theorem r_max2 {i j : Int} (q : Q (.int (if j > i then j else i)) H) : rMax2 [.int i, .int j] H Q := ⟨i, j, rfl, q⟩
theorem r_abs {i : Int} (q : Q (.int (if i < 0 then -i else i)) H) : rAbs [.int i] H Q := ⟨i, rfl, q⟩
theorem r_ixL {p : Addr} {xs : List V} {i : Int} {v : V} (h : SqL K H p xs) (ha : atI xs i = some v) (q : Q v H) : rIxL K (.ref p) (.int i) H Q := ⟨p, xs, i, v, rfl, rfl, h, ha, q⟩
theorem r_ixT {p : Addr} {xs : List V} {i : Int} {v : V} (h : SqT K H p xs) (ha : atI xs i = some v) (q : Q v H) : rIxT K (.ref p) (.int i) H Q := ⟨p, xs, i, v, rfl, rfl, h, ha, q⟩
theorem r_slL {p : Addr} {xs : List V} {lo hi : Option Int} (h : SqL K H p xs) (q : ∀ l, H l = none → Q (.ref l) (upd H l (.lst (cutV xs lo hi)))) : rSlL K (.ref p) lo hi H Q := ⟨p, xs, rfl, h, q⟩
theorem r_cat {l b : Addr} {xs zs : List V} (h : H l = some (.lst xs)) (h' : H b = some (.lst zs)) (z : xs.length + zs.length ≤ 1000000) (q : ∀ p, H p = none → Q (.ref p) (upd H p (.lst (xs ++ zs)))) : rCat (.ref l) (.ref b) H Q := ⟨l, b, xs, zs, rfl, rfl, h, h', sz z, q⟩
theorem r_app {l : Addr} {xs : List V} {v : V} (h : H l = some (.lst xs)) (z : xs.length ≤ 1000000) (q : Q .non (upd H l (.lst (xs ++ [v])))) : rAppend (.ref l) [v] H Q := ⟨l, xs, v, rfl, rfl, h, szl z, q⟩
theorem r_tyL {p : Addr} {xs : List V} {N : Prop} (h : SqL K H p xs) (q : N) : tyV K "list" (.ref p) H ∧ N := ⟨.inl ⟨rfl, xs, h⟩, q⟩
theorem r_ins {l : Addr} {xs : List V} {i : Int} {y : V} (h : H l = some (.lst xs)) (z : xs.length ≤ 1000000) (i0 : 0 ≤ i) (i1 : i ≤ 1000000) (q : Q .non (upd H l (.lst (xs.take i.toNat ++ [y] ++ xs.drop i.toNat)))) : rIns (.ref l) [.int i, y] H Q := ⟨l, xs, i, y, rfl, rfl, h, szl z, i0, Int.lt_of_le_of_lt i1 (by decide), q⟩
theorem map_erase (ns : List Int) (k : Nat) : (ns.map V.int).eraseIdx k = (ns.eraseIdx k).map V.int := by
  induction ns generalizing k with
  | nil => rfl
  | cons a r ih =>
    cases k with
    | zero => rfl
    | succ k =>
      show V.int a :: (r.map V.int).eraseIdx k = V.int a :: (r.eraseIdx k).map V.int
      rw [ih]
theorem seq_ix {n : Nat} {i : Int} (h0 : 0 ≤ i) (h1 : i < (n : Int)) : seqIndex? i n = some i.toNat := by
  have e : ixN n i = some i.toNat := by
    unfold ixN
    rw [if_pos h0, if_pos h1]
  exact (ixN_seq e).1
theorem snoc_int (ns : List Int) (x : Int) : ns.map V.int ++ [V.int x] = (ns ++ [x]).map V.int := by
  rw [List.map_append]
  rfl
theorem r_popAt {l : Addr} {ns : List Int} {i z : Int} (h : H l = some (.lst (ns.map V.int))) (h0 : 0 ≤ i) (h1 : i < 1000000) (hz : ns[i.toNat]? = some z) (q : Q (.int z) (upd H l (.lst ((ns.eraseIdx i.toNat).map V.int)))) : rPopAt (.ref l) [.int i] H Q := by
  have hi : i.toNat < ns.length := (List.getElem?_eq_some_iff.mp hz).1
  refine ⟨l, ns.map V.int, i, i.toNat, .int z, rfl, rfl, h, by omega, by omega, ?_, ?_, ?_⟩
  · rw [List.length_map]
    exact seq_ix h0 (by omega)
  · rw [List.getElem?_map, hz] <;> rfl
  · rw [map_erase]
    exact q
theorem sIx_int {n d : Nat} {i : Int} (h0 : 0 ≤ i) (h1 : i ≤ (n : Int)) : HT.sIx n d (some i) = i.toNat := by
  have e : i = ((i.toNat : Nat) : Int) := by omega
  rw [e, HT.sIx_nat, Int.toNat_natCast]
  omega
theorem cut_take {xs : List V} {i : Int} (h0 : 0 ≤ i) (h1 : i ≤ (xs.length : Int)) : cutV xs none (some i) = xs.take i.toNat := by
  unfold cutV
  rw [sIx_int h0 h1, HT.sIx_none, List.drop_zero, Nat.sub_zero]
theorem cut_drop {xs : List V} {i : Int} (h0 : 0 ≤ i) (h1 : i ≤ (xs.length : Int)) : cutV xs (some i) none = xs.drop i.toNat := by
  unfold cutV
  rw [sIx_int h0 h1, HT.sIx_none]
  exact List.take_of_length_le (by rw [List.length_drop]; exact Nat.le_refl _)
theorem cut_mid {xs : List V} {i j : Int} (h0 : 0 ≤ i) (h1 : i ≤ (xs.length : Int)) (h2 : 0 ≤ j) (h3 : j ≤ (xs.length : Int)) : cutV xs (some i) (some j) = (xs.drop i.toNat).take (j.toNat - i.toNat) := by
  unfold cutV
  rw [sIx_int h0 h1, sIx_int h2 h3]
theorem cut_takeI {ns : List Int} {i : Int} (h0 : 0 ≤ i) (h1 : i ≤ (ns.length : Int)) : cutV (ns.map V.int) none (some i) = (ns.take i.toNat).map V.int := by
  rw [cut_take h0 (by rw [List.length_map]; exact h1), List.map_take]
theorem cut_dropI {ns : List Int} {i : Int} (h0 : 0 ≤ i) (h1 : i ≤ (ns.length : Int)) : cutV (ns.map V.int) (some i) none = (ns.drop i.toNat).map V.int := by
  rw [cut_drop h0 (by rw [List.length_map]; exact h1), List.map_drop]
theorem cut_midI {ns : List Int} {i j : Int} (h0 : 0 ≤ i) (h1 : i ≤ (ns.length : Int)) (h2 : 0 ≤ j) (h3 : j ≤ (ns.length : Int)) : cutV (ns.map V.int) (some i) (some j) = ((ns.drop i.toNat).take (j.toNat - i.toNat)).map V.int := by
  rw [cut_mid h0 (by rw [List.length_map]; exact h1) h2 (by rw [List.length_map]; exact h3), List.map_take, List.map_drop]
theorem cut_int (ns : List Int) (lo hi : Option Int) : ∃ ms : List Int, cutV (ns.map V.int) lo hi = ms.map V.int ∧ ms.length ≤ ns.length := by
  refine ⟨(ns.drop (HT.sIx ns.length 0 lo)).take (HT.sIx ns.length ns.length hi - HT.sIx ns.length 0 lo), ?_, ?_⟩
  · unfold cutV
    rw [List.length_map, List.map_take, List.map_drop]
  · rw [List.length_take, List.length_drop]
    omega
theorem same_made {H H' : Hp} {x dx C : Addr} (nx : H x = none) (nd : H dx = none) (k : But x (upd (upd H dx (.own x)) x (.ins C dx [])) H') : Same H H' := fun b o e =>
  k b o (by rw [upd_ne (ne_of_none e nx), upd_ne (ne_of_none e nd)]; exact e) (ne_of_none e nx)
theorem r_at {xs : List V} {j : Nat} {v : V} {i : Int} (e : i = (j : Int)) (h : xs[j]? = some v) : atI xs i = some v := by
  rw [e]
  exact atI_nat h
/-- comparison of data -/
def pdV : V → PyData
  | .bl b => .bool b
  | .int i => .int i
  | _ => .none
def okV : V → Bool
  | .non => true
  | .int _ => true
  | _ => false
theorem okV_eqv : ∀ {x y : V}, okV x = true → okV y = true → PyData.eqv (pdV x) (pdV y) = decide (x = y)
  | .non, .non, _, _ => by rw [decide_eq_true rfl] <;> rfl
  | .non, .int j, _, _ => by rw [decide_eq_false (by intro h; cases h)] <;> rfl
  | .int i, .non, _, _ => by rw [decide_eq_false (by intro h; cases h)] <;> rfl
  | .int i, .int j, _, _ => by rw [dec_int] <;> rfl
theorem eqv_flat : ∀ {xs ys : List V}, xs.all okV = true → ys.all okV = true → PyData.eqvAll (xs.map pdV) (ys.map pdV) = decide (xs = ys)
  | [], [], _, _ => by rw [decide_eq_true rfl] <;> rfl
  | [], y :: ys, _, _ => by rw [decide_eq_false (by intro h; cases h)] <;> rfl
  | x :: xs, [], _, _ => by rw [decide_eq_false (by intro h; cases h)] <;> rfl
  | x :: xs, y :: ys, h1, h2 => by
    rw [List.all_cons, Bool.and_eq_true] at h1 h2
    have ih := eqv_flat (xs := xs) (ys := ys) h1.2 h2.2
    have e1 := okV_eqv h1.1 h2.1
    show (PyData.eqv (pdV x) (pdV y) && PyData.eqvAll (xs.map pdV) (ys.map pdV)) = _
    rw [ih, e1]
    by_cases a : x = y
    · by_cases b : xs = ys
      · rw [a, b]
        simp
      · rw [decide_eq_false b, Bool.and_false, decide_eq_false (by intro h; cases h; exact b rfl)]
    · rw [decide_eq_false a, Bool.false_and, decide_eq_false (by intro h; cases h; exact a rfl)]
theorem dpAll_flat {H : Hp} : ∀ {xs : List V}, xs.all okV = true → DpAll K H xs (xs.map pdV)
  | [], _ => .nil
  | .non :: xs, h => .cons .non (dpAll_flat (by rw [List.all_cons, Bool.and_eq_true] at h; exact h.2))
  | .int i :: xs, h => .cons (.int i) (dpAll_flat (by rw [List.all_cons, Bool.and_eq_true] at h; exact h.2))
theorem lay_flat : ∀ {xs : List V}, xs.all okV = true → PyData.canLayAll0 (xs.map pdV) = true ∧ PyData.depthAll (xs.map pdV) = 0
  | [], _ => ⟨rfl, rfl⟩
  | .non :: xs, h => by
    have ih := lay_flat (xs := xs) (by rw [List.all_cons, Bool.and_eq_true] at h; exact h.2)
    exact ⟨by show (true && PyData.canLayAll0 (xs.map pdV)) = true; rw [ih.1] <;> rfl, by show max 0 (PyData.depthAll (xs.map pdV)) = 0; rw [ih.2] <;> rfl⟩
  | .int i :: xs, h => by
    have ih := lay_flat (xs := xs) (by rw [List.all_cons, Bool.and_eq_true] at h; exact h.2)
    exact ⟨by show (true && PyData.canLayAll0 (xs.map pdV)) = true; rw [ih.1] <;> rfl, by show max 0 (PyData.depthAll (xs.map pdV)) = 0; rw [ih.2] <;> rfl⟩
theorem shaped_flat {xs : List V} (h : xs.all okV = true) : SeqAt.shaped (.list (xs.map pdV)) = true := by
  obtain ⟨a, b⟩ := lay_flat h
  show (PyData.canLayAll0 (xs.map pdV) && decide (PyData.depthAll (xs.map pdV) + 1 ≤ 64)) = true
  rw [a, b]
  rfl
theorem shaped_flatT {xs : List V} (h : xs.all okV = true) : SeqAt.shaped (.tuple (xs.map pdV)) = true := by
  obtain ⟨a, b⟩ := lay_flat h
  show (PyData.canLayAll0 (xs.map pdV) && decide (PyData.depthAll (xs.map pdV) + 1 ≤ 64)) = true
  rw [a, b]
  rfl
theorem r_eqL {a b : Addr} {xs ys : List V} (h : SqL K H a xs) (h' : SqL K H b ys) (o : xs.all okV = true) (o' : ys.all okV = true) (q : Q (.bl (decide (xs = ys))) H) : rEqD K (.ref a) (.ref b) H Q :=
  ⟨_, _, .lst h (dpAll_flat o), .lst h' (dpAll_flat o'), shaped_flat o, shaped_flat o', by
    show Q (.bl (PyData.eqvAll (xs.map pdV) (ys.map pdV))) H
    rw [eqv_flat o o']
    exact q⟩
theorem r_neL {a b : Addr} {xs ys : List V} (h : SqL K H a xs) (h' : SqL K H b ys) (o : xs.all okV = true) (o' : ys.all okV = true) (q : Q (.bl (!decide (xs = ys))) H) : rNeD K (.ref a) (.ref b) H Q :=
  ⟨_, _, .lst h (dpAll_flat o), .lst h' (dpAll_flat o'), shaped_flat o, shaped_flat o', by
    show Q (.bl (!PyData.eqvAll (xs.map pdV) (ys.map pdV))) H
    rw [eqv_flat o o']
    exact q⟩
theorem r_eqT {a b : Addr} {xs ys : List V} (h : SqT K H a xs) (h' : SqT K H b ys) (o : xs.all okV = true) (o' : ys.all okV = true) (q : Q (.bl (decide (xs = ys))) H) : rEqD K (.ref a) (.ref b) H Q :=
  ⟨_, _, .tup h (dpAll_flat o), .tup h' (dpAll_flat o'), shaped_flatT o, shaped_flatT o', by
    show Q (.bl (PyData.eqvAll (xs.map pdV) (ys.map pdV))) H
    rw [eqv_flat o o']
    exact q⟩
theorem r_neT {a b : Addr} {xs ys : List V} (h : SqT K H a xs) (h' : SqT K H b ys) (o : xs.all okV = true) (o' : ys.all okV = true) (q : Q (.bl (!decide (xs = ys))) H) : rNeD K (.ref a) (.ref b) H Q :=
  ⟨_, _, .tup h (dpAll_flat o), .tup h' (dpAll_flat o'), shaped_flatT o, shaped_flatT o', by
    show Q (.bl (!PyData.eqvAll (xs.map pdV) (ys.map pdV))) H
    rw [eqv_flat o o']
    exact q⟩
theorem all_int (ns : List Int) : (ns.map V.int).all okV = true := by
  rw [List.all_map]
  exact List.all_eq_true.mpr fun _ _ => rfl
theorem map_int_inj {a b : List Int} (h : a.map V.int = b.map V.int) : a = b := by
  have := congrArg (List.map fun v => match v with | V.int i => i | _ => 0) h
  rw [List.map_map, List.map_map] at this
  have e : ((fun v => match v with | V.int i => i | _ => 0) ∘ V.int) = (id : Int → Int) := by funext x; rfl
  rw [e, List.map_id, List.map_id] at this
  exact this
theorem dec_ints {a b : List Int} : decide (a.map V.int = b.map V.int) = decide (a = b) := by
  by_cases h : a = b
  · rw [h, decide_eq_true rfl, decide_eq_true rfl]
  · rw [decide_eq_false h, decide_eq_false (fun e => h (map_int_inj e))]
/-- isinstance -/
theorem r_isiT {x : V} {a b : String} (ty : TyX K H x (.type a)) (h : kitB a b = some true) (q : Q (.bl true) H) : rIsi K [x, .ty b] H Q := ⟨x, .ty b, .type a, .type b, true, rfl, .ty b, ty, kit_ty h, q⟩
theorem r_isiF {x : V} {a b : String} (ty : TyX K H x (.type a)) (h : kitB a b = some false) (q : Q (.bl false) H) : rIsi K [x, .ty b] H Q := ⟨x, .ty b, .type a, .type b, false, rfl, .ty b, ty, kit_ty h, q⟩
theorem tyX_sq {a : Addr} {xs : List V} (h : SqL K H a xs) : TyX K H (.ref a) (.type "list") := by
  rcases h with (h | ⟨o, h⟩) | ⟨o, its, n, h1, h2, _⟩
  · exact .base (.lst h)
  · exact .base (.frz h)
  · exact .kList h1 h2

/-! ### loops: the reading waits at one of these, its arguments seen -/
def LoopR (lo : Int) (n j : Nat) (tb : TS) : TS := fun D σ H => ∃ W : Nat → Nat → L2.St → Hp → Prop, (∃ m, W 0 m σ H) ∧ ∀ i m σ H, W i m σ H →
  ((Itr lo n).stop i H ∧ D.nx σ H) ∨ ((Itr lo n).go i H ∧ ∃ N : L2.St → Hp → Prop, (∀ σ' H', N σ' H' → ∃ m', m' < m ∧ W (i + 1) m' σ' H') ∧ ∀ x H', (Itr lo n).yld i H x H' → gName j x σ H' fun σ2 H2 => tb ⟨N, D.rt, D.nx, N⟩ σ2 H2)
def LoopL (K : PySem.W.Frag) (a : Addr) (j : Nat) (tb : TS) : TS := fun D σ H => ∃ W : Nat → Nat → L2.St → Hp → Prop, (∃ m, W 0 m σ H) ∧ ∀ i m σ H, W i m σ H →
  ((Itl K a).stop i H ∧ D.nx σ H) ∨ ((Itl K a).go i H ∧ ∃ N : L2.St → Hp → Prop, (∀ σ' H', N σ' H' → ∃ m', m' < m ∧ W (i + 1) m' σ' H') ∧ ∀ x H', (Itl K a).yld i H x H' → gName j x σ H' fun σ2 H2 => tb ⟨N, D.rt, D.nx, N⟩ σ2 H2)
def LoopC (lo c : Int) (n j : Nat) (tb : TS) : TS := fun D σ H => ∃ W : Nat → Nat → L2.St → Hp → Prop, (∃ m, W 0 m σ H) ∧ ∀ i m σ H, W i m σ H →
  ((Itc lo c n).stop i H ∧ D.nx σ H) ∨ ((Itc lo c n).go i H ∧ ∃ N : L2.St → Hp → Prop, (∀ σ' H', N σ' H' → ∃ m', m' < m ∧ W (i + 1) m' σ' H') ∧ ∀ x H', (Itc lo c n).yld i H x H' → gName j x σ H' fun σ2 H2 => tb ⟨N, D.rt, D.nx, N⟩ σ2 H2)
theorem r_for1 {tr : TA} {j : Nat} {tb : TS} (h : tr σ H fun vs H1 => ∃ n : Int, vs = [.int n] ∧ -(2 ^ 62) ≤ n ∧ n < 2 ^ 62 ∧ LoopR 0 n.toNat j tb ⟨nx, rt, bk, ct⟩ σ H1) : tFor (iRng1 tr) (gName j) tb ⟨nx, rt, bk, ct⟩ σ H := h
theorem r_rng1 {n : Int} {N : Int → Prop} (h : -1000000 ≤ n ∧ n ≤ 1000000) (q : N n) : ∃ m : Int, ([.int n] : List V) = [.int m] ∧ -(2 ^ 62) ≤ m ∧ m < 2 ^ 62 ∧ N m := ⟨n, rfl, by omega, by omega, q⟩
theorem r_for2 {tr : TA} {j : Nat} {tb : TS} (h : tr σ H fun vs H1 => ∃ m n : Int, vs = [.int m, .int n] ∧ (-(2 ^ 62) ≤ m ∧ m < 2 ^ 62 ∧ -(2 ^ 62) ≤ n ∧ n < 2 ^ 62) ∧ LoopR m (n - m).toNat j tb ⟨nx, rt, bk, ct⟩ σ H1) : tFor (iRng2 tr) (gName j) tb ⟨nx, rt, bk, ct⟩ σ H := h
theorem r_rng2 {m n : Int} {N : Int → Int → Prop} (h : -1000000 ≤ m ∧ m ≤ 1000000 ∧ -1000000 ≤ n ∧ n ≤ 1000000) (q : N m n) : ∃ a b : Int, ([.int m, .int n] : List V) = [.int a, .int b] ∧ (-(2 ^ 62) ≤ a ∧ a < 2 ^ 62 ∧ -(2 ^ 62) ≤ b ∧ b < 2 ^ 62) ∧ N a b := ⟨m, n, rfl, ⟨by omega, by omega, by omega, by omega⟩, q⟩
theorem r_forL {j : Nat} {tb : TS} (h : te σ H fun x H1 => ∃ a, x = .ref a ∧ (∃ xs, SqL K H1 a xs) ∧ LoopL K a j tb ⟨nx, rt, bk, ct⟩ σ H1) : tFor (iList K te) (gName j) tb ⟨nx, rt, bk, ct⟩ σ H := h
theorem r_itL {a : Addr} {xs : List V} {N : Addr → Prop} (h : SqL K H a xs) (q : N a) : ∃ b, V.ref a = .ref b ∧ (∃ xs, SqL K H b xs) ∧ N b := ⟨a, rfl, ⟨xs, h⟩, q⟩
theorem r_forC {j : Nat} {tb : TS} {tr : L2.St → Hp → (Int → Int → Hp → Prop) → Prop} (h : tr σ H fun a b H1 => -(2 ^ 62) ≤ a ∧ a < 2 ^ 62 ∧ -(2 ^ 62) ≤ b ∧ b < 2 ^ 62 ∧ LoopC (a + (((b - a).toNat : Nat) : Int) - 1) (-1) (b - a).toNat j tb ⟨nx, rt, bk, ct⟩ σ H1) : tFor (iRevR tr) (gName j) tb ⟨nx, rt, bk, ct⟩ σ H := h
theorem r_loopR {lo : Int} {n j : Nat} {tb : TS} (Pv : Nat → L2.St → Hp → Prop) (h0 : Pv 0 σ H)
    (hs : ∀ i σ' H', i < n → Pv i σ' H' → tb ⟨Pv (i + 1), rt, nx, Pv (i + 1)⟩ (σ'.set j (some (.int (lo + (i : Int))))) H') (hd : ∀ σ' H', Pv n σ' H' → nx σ' H') : LoopR lo n j tb ⟨nx, rt, bk, ct⟩ σ H :=
  for_range (g := gName j) Pv h0 hs hd
theorem r_loop0 {n j : Nat} {tb : TS} (Pv : Nat → L2.St → Hp → Prop) (h0 : Pv 0 σ H)
    (hs : ∀ i σ' H', i < n → Pv i σ' H' → tb ⟨Pv (i + 1), rt, nx, Pv (i + 1)⟩ (σ'.set j (some (.int (i : Int)))) H') (hd : ∀ σ' H', Pv n σ' H' → nx σ' H') : LoopR 0 n j tb ⟨nx, rt, bk, ct⟩ σ H :=
  r_loopR Pv h0 (fun i σ' H' hi hp => by
    have e : (0 : Int) + (i : Int) = (i : Int) := Int.zero_add _
    rw [e]
    exact hs i σ' H' hi hp) hd
theorem r_loopC {lo c : Int} {n j : Nat} {tb : TS} (Pv : Nat → L2.St → Hp → Prop) (h0 : Pv 0 σ H)
    (hs : ∀ i σ' H', i < n → Pv i σ' H' → tb ⟨Pv (i + 1), rt, nx, Pv (i + 1)⟩ (σ'.set j (some (.int (lo + (i : Nat) * c)))) H') (hd : ∀ σ' H', Pv n σ' H' → nx σ' H') : LoopC lo c n j tb ⟨nx, rt, bk, ct⟩ σ H :=
  for_rangeC (g := gName j) Pv h0 hs hd
theorem r_loopL {a : Addr} {xs : List V} {j : Nat} {tb : TS} (Pv : Nat → L2.St → Hp → Prop) (h0 : Pv 0 σ H) (hl : ∀ i σ' H', i ≤ xs.length → Pv i σ' H' → SqL K H' a xs)
    (hs : ∀ i x σ' H', xs[i]? = some x → Pv i σ' H' → tb ⟨Pv (i + 1), rt, nx, Pv (i + 1)⟩ (σ'.set j (some x)) H') (hd : ∀ σ' H', Pv xs.length σ' H' → nx σ' H') : LoopL K a j tb ⟨nx, rt, bk, ct⟩ σ H :=
  for_list (g := gName j) Pv h0 hl hs hd
theorem nth_int {ns : List Int} {i : Nat} {x : V} (h : (ns.map V.int)[i]? = some x) : ∃ z, ns[i]? = some z ∧ x = .int z := by
  rw [List.getElem?_map] at h
  cases e : ns[i]? with
  | none =>
    rw [e] at h
    cases h
  | some z =>
    rw [e] at h
    exact ⟨z, rfl, (Option.some.inj h).symm⟩
theorem r_loopI {a : Addr} {ns : List Int} {j : Nat} {tb : TS} (Pv : Nat → L2.St → Hp → Prop) (h0 : Pv 0 σ H) (hl : ∀ i σ' H', i ≤ ns.length → Pv i σ' H' → SqL K H' a (ns.map V.int))
    (hs : ∀ i z σ' H', ns[i]? = some z → Pv i σ' H' → tb ⟨Pv (i + 1), rt, nx, Pv (i + 1)⟩ (σ'.set j (some (.int z))) H') (hd : ∀ σ' H', Pv ns.length σ' H' → nx σ' H') : LoopL K a j tb ⟨nx, rt, bk, ct⟩ σ H :=
  r_loopL (xs := ns.map V.int) Pv h0 (fun i σ' H' hi => hl i σ' H' (by rw [List.length_map] at hi; exact hi)) (fun i x σ' H' hi hp => by
    obtain ⟨z, hz, rfl⟩ := nth_int hi
    exact hs i z σ' H' hz hp) (fun σ' H' hp => hd σ' H' (by rw [List.length_map] at hp; exact hp))
theorem r_while (W : Nat → L2.St → Hp → Prop) (m0 : Nat) (h0 : W m0 σ H)
    (hs : ∀ m σ' H', W m σ' H' → tt σ' H' fun b H1 => if b = true then ∃ N : L2.St → Hp → Prop, (∀ σ2 H2, N σ2 H2 → ∃ m', m' < m ∧ W m' σ2 H2) ∧ t ⟨N, rt, nx, N⟩ σ' H1 else nx σ' H1) : tWhile tt t ⟨nx, rt, bk, ct⟩ σ H :=
  ⟨W, ⟨m0, h0⟩, hs⟩
theorem r_wh {W : Nat → L2.St → Hp → Prop} {m : Nat} (h : t ⟨fun σ2 H2 => ∃ m', m' < m ∧ W m' σ2 H2, rt, nx, fun σ2 H2 => ∃ m', m' < m ∧ W m' σ2 H2⟩ σ H) :
    ∃ N : L2.St → Hp → Prop, (∀ σ2 H2, N σ2 H2 → ∃ m', m' < m ∧ W m' σ2 H2) ∧ t ⟨N, rt, nx, N⟩ σ H := ⟨_, fun _ _ h => h, h⟩
def LoopT (K : PySem.W.Frag) (a : Addr) (j : Nat) (tb : TS) : TS := fun D σ H => ∃ W : Nat → Nat → L2.St → Hp → Prop, (∃ m, W 0 m σ H) ∧ ∀ i m σ H, W i m σ H →
  ((Itt K a).stop i H ∧ D.nx σ H) ∨ ((Itt K a).go i H ∧ ∃ N : L2.St → Hp → Prop, (∀ σ' H', N σ' H' → ∃ m', m' < m ∧ W (i + 1) m' σ' H') ∧ ∀ x H', (Itt K a).yld i H x H' → gName j x σ H' fun σ2 H2 => tb ⟨N, D.rt, D.nx, N⟩ σ2 H2)
theorem r_forT {j : Nat} {tb : TS} (h : te σ H fun x H1 => ∃ a, x = .ref a ∧ (∃ xs, SqT K H1 a xs) ∧ LoopT K a j tb ⟨nx, rt, bk, ct⟩ σ H1) : tFor (iTup K te) (gName j) tb ⟨nx, rt, bk, ct⟩ σ H := h
theorem r_itT {a : Addr} {xs : List V} {N : Addr → Prop} (h : SqT K H a xs) (q : N a) : ∃ b, V.ref a = .ref b ∧ (∃ xs, SqT K H b xs) ∧ N b := ⟨a, rfl, ⟨xs, h⟩, q⟩
theorem r_loopT {a : Addr} {xs : List V} {j : Nat} {tb : TS} (Pv : Nat → L2.St → Hp → Prop) (h0 : Pv 0 σ H) (hl : ∀ i σ' H', i ≤ xs.length → Pv i σ' H' → SqT K H' a xs)
    (hs : ∀ i x σ' H', xs[i]? = some x → Pv i σ' H' → tb ⟨Pv (i + 1), rt, nx, Pv (i + 1)⟩ (σ'.set j (some x)) H') (hd : ∀ σ' H', Pv xs.length σ' H' → nx σ' H') : LoopT K a j tb ⟨nx, rt, bk, ct⟩ σ H :=
  for_tup (g := gName j) Pv h0 hl hs hd
/-! comprehensions -/
def LcL (K : PySem.W.Frag) (a : Addr) (j : Nat) (tt : TT) (te : TE) (vs : List Nat) : TE := fun σ H Q => ∀ D, H D = none → ∃ W : Nat → Nat → Hp → Prop, (∃ m, W 0 m (upd H D (.lst []))) ∧ ∀ i m H, W i m H →
  ((Itl K a).stop i H ∧ Q (.ref D) H) ∨ ((Itl K a).go i H ∧ ∃ Nx : Hp → Prop, (∀ H', Nx H' → ∃ m', m' < m ∧ W (i + 1) m' H') ∧ ∀ x H', (Itl K a).yld i H x H' → gName j x (wipe σ vs) H' fun σ2 H2 => wipe σ2 vs = wipe σ vs ∧ tt σ2 H2 fun b H3 =>
    if b = true then te σ2 H3 fun y H4 => ∃ acc, H4 D = some (.lst acc) ∧ acc.length < sizeLine ∧ Nx (upd H4 D (.lst (acc ++ [y]))) else Nx H3)
def LcR (lo : Int) (n j : Nat) (tt : TT) (te : TE) (vs : List Nat) : TE := fun σ H Q => ∀ D, H D = none → ∃ W : Nat → Nat → Hp → Prop, (∃ m, W 0 m (upd H D (.lst []))) ∧ ∀ i m H, W i m H →
  ((Itr lo n).stop i H ∧ Q (.ref D) H) ∨ ((Itr lo n).go i H ∧ ∃ Nx : Hp → Prop, (∀ H', Nx H' → ∃ m', m' < m ∧ W (i + 1) m' H') ∧ ∀ x H', (Itr lo n).yld i H x H' → gName j x (wipe σ vs) H' fun σ2 H2 => wipe σ2 vs = wipe σ vs ∧ tt σ2 H2 fun b H3 =>
    if b = true then te σ2 H3 fun y H4 => ∃ acc, H4 D = some (.lst acc) ∧ acc.length < sizeLine ∧ Nx (upd H4 D (.lst (acc ++ [y]))) else Nx H3)
theorem r_lc1 {tr : TA} {j : Nat} {vs : List Nat} (h : tr σ H fun ws H1 => ∃ n : Int, ws = [.int n] ∧ -(2 ^ 62) ≤ n ∧ n < 2 ^ 62 ∧ LcR 0 n.toNat j tt te vs σ H1 Q) : tLc (iRng1 tr) (gName j) tt te vs σ H Q := h
theorem r_lc2 {tr : TA} {j : Nat} {vs : List Nat} (h : tr σ H fun ws H1 => ∃ m n : Int, ws = [.int m, .int n] ∧ (-(2 ^ 62) ≤ m ∧ m < 2 ^ 62 ∧ -(2 ^ 62) ≤ n ∧ n < 2 ^ 62) ∧ LcR m (n - m).toNat j tt te vs σ H1 Q) : tLc (iRng2 tr) (gName j) tt te vs σ H Q := h
theorem r_lcL {j : Nat} {vs : List Nat} (h : ta σ H fun x H1 => ∃ a, x = .ref a ∧ (∃ xs, SqL K H1 a xs) ∧ LcL K a j tt te vs σ H1 Q) : tLc (iList K ta) (gName j) tt te vs σ H Q := h
theorem r_yes {N : Bool → Hp → Prop} (h : N true H) : tYes σ H N := h
theorem r_LcL {a : Addr} {xs : List V} {j : Nat} {vs : List Nat} (hx : SqL K H a xs) (acc : Nat → List V) (h0 : acc 0 = []) (hz : ∀ i, i ≤ xs.length → (acc i).length ≤ 100000) (hw : ∀ x, wipe ((wipe σ vs).set j (some x)) vs = wipe σ vs)
    (hs : ∀ i x H' (N : VK) (Z : Hp → Prop), xs[i]? = some x → Same H H' → (∀ y H4, Same H' H4 → acc (i + 1) = acc i ++ [y] → N y H4) → (∀ H3, Same H' H3 → acc (i + 1) = acc i → Z H3) →
      tt ((wipe σ vs).set j (some x)) H' fun b H3 => if b = true then te ((wipe σ vs).set j (some x)) H3 N else Z H3)
    (hd : ∀ p H', H p = none → Same H H' → H' p = some (.lst (acc xs.length)) → Q (.ref p) H') : LcL K a j tt te vs σ H Q := by
  intro p np
  refine lc_list (g := gName j) (xs := xs) (fun i H' => i ≤ xs.length ∧ Same H H' ∧ H' p = some (.lst (acc i))) ⟨Nat.zero_le _, same_new np _, by rw [h0]; exact upd_same⟩ (fun i H' _ q => q.2.1.seq hx) (fun i x H' hi q => ?_) (fun H' q => hd p H' np q.2.1 q.2.2)
  obtain ⟨_, s, e⟩ := q
  have hil : i < xs.length := (List.getElem?_eq_some_iff.mp hi).1
  refine ⟨hw x, hs i x H' _ _ hi s (fun y H4 s4 e4 => ?_) fun H3 s3 e3 => ?_⟩
  · refine ⟨acc i, s4 _ _ e, Nat.lt_of_le_of_lt (hz i (Nat.le_of_lt hil)) (by decide), hil, ?_, ?_⟩
    · exact same_mut (s.trans s4) np
    · rw [e4]
      exact upd_same
  · exact ⟨hil, s.trans s3, by rw [e3]; exact s3 _ _ e⟩
theorem r_LcR {lo : Int} {n : Nat} {j : Nat} {vs : List Nat} (acc : Nat → List V) (h0 : acc 0 = []) (hz : ∀ i, i ≤ n → (acc i).length ≤ 100000) (hw : ∀ x, wipe ((wipe σ vs).set j (some x)) vs = wipe σ vs)
    (hs : ∀ i H' (N : VK) (Z : Hp → Prop), i < n → Same H H' → (∀ y H4, Same H' H4 → acc (i + 1) = acc i ++ [y] → N y H4) → (∀ H3, Same H' H3 → acc (i + 1) = acc i → Z H3) →
      tt ((wipe σ vs).set j (some (.int (lo + (i : Int))))) H' fun b H3 => if b = true then te ((wipe σ vs).set j (some (.int (lo + (i : Int))))) H3 N else Z H3)
    (hd : ∀ p H', H p = none → Same H H' → H' p = some (.lst (acc n)) → Q (.ref p) H') : LcR lo n j tt te vs σ H Q := by
  intro p np
  refine lc_range (g := gName j) (fun i H' => i ≤ n ∧ Same H H' ∧ H' p = some (.lst (acc i))) ⟨Nat.zero_le _, same_new np _, by rw [h0]; exact upd_same⟩ (fun i H' hi q => ?_) (fun H' q => hd p H' np q.2.1 q.2.2)
  obtain ⟨_, s, e⟩ := q
  refine ⟨hw _, hs i H' _ _ hi s (fun y H4 s4 e4 => ?_) fun H3 s3 e3 => ?_⟩
  · refine ⟨acc i, s4 _ _ e, Nat.lt_of_le_of_lt (hz i (Nat.le_of_lt hi)) (by decide), hi, ?_, ?_⟩
    · exact same_mut (s.trans s4) np
    · rw [e4]
      exact upd_same
  · exact ⟨hi, s.trans s3, by rw [e3]; exact s3 _ _ e⟩
theorem r_LcR0 {n : Nat} {j : Nat} {vs : List Nat} (acc : Nat → List V) (h0 : acc 0 = []) (hz : ∀ i, i ≤ n → (acc i).length ≤ 100000) (hw : ∀ x, wipe ((wipe σ vs).set j (some x)) vs = wipe σ vs)
    (hs : ∀ i H' (N : VK) (Z : Hp → Prop), i < n → Same H H' → (∀ y H4, Same H' H4 → acc (i + 1) = acc i ++ [y] → N y H4) → (∀ H3, Same H' H3 → acc (i + 1) = acc i → Z H3) →
      tt ((wipe σ vs).set j (some (.int (i : Int)))) H' fun b H3 => if b = true then te ((wipe σ vs).set j (some (.int (i : Int)))) H3 N else Z H3)
    (hd : ∀ p H', H p = none → Same H H' → H' p = some (.lst (acc n)) → Q (.ref p) H') : LcR 0 n j tt te vs σ H Q :=
  r_LcR acc h0 hz hw (fun i H' N Z hi s hN hZ => by
    have e : (0 : Int) + (i : Int) = (i : Int) := Int.zero_add _
    rw [e]
    exact hs i H' N Z hi s hN hZ) hd
/-- maps and filters, by how far one is -/
def mapAcc (f : V → V) (xs : List V) (i : Nat) : List V := (xs.take i).map f
theorem take_more {α : Type} : ∀ {l : List α} {i : Nat} {x : α}, l[i]? = some x → l.take (i + 1) = l.take i ++ [x]
  | [], i, x, h => by simp at h
  | a :: l, 0, x, h => by
    have e : a = x := Option.some.inj h
    subst e
    rfl
  | a :: l, i + 1, x, h => by
    have ih := take_more (l := l) (i := i) (x := x) h
    show a :: l.take (i + 1) = a :: l.take i ++ [x]
    rw [ih]
    rfl
end
theorem getD_at' {ns : List Int} {k : Nat} (h : k < ns.length) : ns[k]? = some (ns.getD k 0) := by
  rw [List.getD_eq_getElem?_getD, List.getElem?_eq_getElem h]
  rfl
end VT
/-! ### the leasts of all stretches -/
namespace VT
open L2
/-- the least of the d + 1 numbers from i on -/
def minTo (ns : List Int) (i : Nat) : Nat → Int
  | 0 => ns.getD i 0
  | d + 1 => if ns.getD (i + (d + 1)) 0 < minTo ns i d then ns.getD (i + (d + 1)) 0 else minTo ns i d
theorem minTo_le (ns : List Int) (i : Nat) : ∀ (d k : Nat), k ≤ d → minTo ns i d ≤ ns.getD (i + k) 0
  | 0, k, h => by
    have e : k = 0 := by omega
    rw [e]
    exact Int.le_refl _
  | d + 1, k, h => by
    show (if ns.getD (i + (d + 1)) 0 < minTo ns i d then ns.getD (i + (d + 1)) 0 else minTo ns i d) ≤ _
    by_cases e : k = d + 1
    · rw [e]
      split <;> omega
    · have := minTo_le ns i d k (by omega)
      split <;> omega
theorem minTo_is (ns : List Int) (i : Nat) : ∀ d : Nat, ∃ k, k ≤ d ∧ minTo ns i d = ns.getD (i + k) 0
  | 0 => ⟨0, Nat.le_refl _, rfl⟩
  | d + 1 => by
    obtain ⟨k, h1, h2⟩ := minTo_is ns i d
    show ∃ k, k ≤ d + 1 ∧ (if ns.getD (i + (d + 1)) 0 < minTo ns i d then ns.getD (i + (d + 1)) 0 else minTo ns i d) = _
    by_cases c : ns.getD (i + (d + 1)) 0 < minTo ns i d
    · rw [if_pos c]
      exact ⟨d + 1, Nat.le_refl _, rfl⟩
    · rw [if_neg c]
      exact ⟨k, by omega, h2⟩
theorem slice_at {ns : List Int} {i n k : Nat} (h : k < n) (hi : i + k < ns.length) : ((ns.drop i).take n)[k]? = some (ns.getD (i + k) 0) := by
  rw [List.getElem?_take, if_pos h, List.getElem?_drop, getD_at' hi]
theorem minTo_slice {ns : List Int} {i d : Nat} {m : Int} (hd : i + d < ns.length) (hm : m ∈ (ns.drop i).take (d + 1)) (hle : ∀ x, x ∈ (ns.drop i).take (d + 1) → m ≤ x) : m = minTo ns i d := by
  obtain ⟨k, hk⟩ := List.mem_iff_getElem?.mp hm
  have hkl : k < ((ns.drop i).take (d + 1)).length := (List.getElem?_eq_some_iff.mp hk).1
  rw [List.length_take] at hkl
  rw [slice_at (by omega) (by omega)] at hk
  have e1 := Option.some.inj hk
  have h1 := minTo_le ns i d k (by omega)
  obtain ⟨k2, h2, h3⟩ := minTo_is ns i d
  have h4 := hle (ns.getD (i + k2) 0) (List.mem_of_getElem? (slice_at (ns := ns) (i := i) (n := d + 1) (k := k2) (by omega) (by omega)))
  omega
def lowsRow (ns : List Int) (i d : Nat) : List Int := (List.range d).map (minTo ns i)
def lows (ns : List Int) : Nat → List Int
  | 0 => []
  | i + 1 => lows ns i ++ lowsRow ns i (ns.length - i)
theorem lowsRow_more (ns : List Int) (i d : Nat) : lowsRow ns i (d + 1) = lowsRow ns i d ++ [minTo ns i d] := by
  unfold lowsRow
  rw [List.range_succ, List.map_append]
  rfl
theorem lowsRow_len (ns : List Int) (i d : Nat) : (lowsRow ns i d).length = d := by
  unfold lowsRow
  rw [List.length_map, List.length_range]
theorem lows_len (ns : List Int) : ∀ i : Nat, (lows ns i).length ≤ i * ns.length
  | 0 => Nat.zero_le _
  | i + 1 => by
    have ih := lows_len ns i
    show (lows ns i ++ lowsRow ns i (ns.length - i)).length ≤ _
    rw [List.length_append, lowsRow_len, Nat.succ_mul]
    omega
theorem lows_small {ns : List Int} {i : Nat} (h : ns.length ≤ 40) (hi : i ≤ ns.length) : (lows ns i).length ≤ 1600 := by
  have h1 := lows_len ns i
  have h2 : i * ns.length ≤ 40 * 40 := Nat.mul_le_mul (by omega) h
  omega
def filtL (P : Int → Bool) (ls : List Int) (i : Nat) : List V := ((ls.take i).filter P).map V.int
theorem filtL_yes {P : Int → Bool} {ls : List Int} {i : Nat} {z : Int} (h : ls[i]? = some z) (hp : P z = true) : filtL P ls (i + 1) = filtL P ls i ++ [V.int z] := by
  unfold filtL
  rw [take_more h, List.filter_append, List.map_append, List.filter_cons, if_pos hp]
  rfl
theorem filtL_no {P : Int → Bool} {ls : List Int} {i : Nat} {z : Int} (h : ls[i]? = some z) (hp : P z = false) : filtL P ls (i + 1) = filtL P ls i := by
  unfold filtL
  rw [take_more h, List.filter_append, List.map_append, List.filter_cons, if_neg (by rw [hp]; exact Bool.false_ne_true)]
  exact List.append_nil _
theorem filtL_len (P : Int → Bool) (ls : List Int) (i : Nat) : (filtL P ls i).length ≤ ls.length := by
  unfold filtL
  rw [List.length_map]
  refine Nat.le_trans (List.length_filter_le _ _) ?_
  rw [List.length_take]
  omega
theorem filtL_all (P : Int → Bool) (ls : List Int) : filtL P ls ls.length = (ls.filter P).map V.int := by
  unfold filtL
  rw [List.take_length]
def atLeast (n : Int) : Int → Bool := fun x => decide (n ≤ x)
end VT
/-! ### widest blocks -/
namespace VT
/-- the block of the d + 1 towers from i on: its area -/
def areaOf (ns : List Int) (i d : Nat) : Int := minTo ns i d * ((d : Int) + 1)
/-- of the blocks that done names, (i, d) is the first of the widest; it is ahead of (a, b) or there -/
structure WideTo (ns : List Int) (done : Nat → Nat → Prop) (i d : Nat) : Prop where
  there : i + d < ns.length
  all : ∀ i' d', done i' d' → i' + d' < ns.length → areaOf ns i' d' ≤ areaOf ns i d ∧ (areaOf ns i' d' = areaOf ns i d → i < i' ∨ i = i' ∧ d ≤ d')
theorem WideTo.uniq {ns : List Int} {i d i' d' : Nat} (h : WideTo ns (fun _ _ => True) i d) (h' : WideTo ns (fun _ _ => True) i' d') : i = i' ∧ d = d' := by
  obtain ⟨a1, a2⟩ := h.all i' d' trivial h'.there
  obtain ⟨b1, b2⟩ := h'.all i d trivial h.there
  have e : areaOf ns i' d' = areaOf ns i d := by omega
  have c1 := a2 e
  have c2 := b2 e.symm
  omega
/-- behind the blocks from (a, 0) to (a, b - 1) and all from earlier places -/
def upTo (a b : Nat) : Nat → Nat → Prop := fun i d => i < a ∨ i = a ∧ d < b
theorem WideTo.start {ns : List Int} (h : 0 < ns.length) : WideTo ns (upTo 0 0) 0 0 := ⟨h, fun i' d' hd _ => by
  rcases hd with h | h <;> omega⟩
theorem WideTo.keep {ns : List Int} {a b i d : Nat} (h : WideTo ns (upTo a b) i d) (hp : i < a ∨ i = a ∧ d ≤ b) (hv : ¬ areaOf ns i d < areaOf ns a b) : WideTo ns (upTo a (b + 1)) i d := ⟨h.there, fun i' d' hd hl => by
  by_cases e : i' = a ∧ d' = b
  · obtain ⟨rfl, rfl⟩ := e
    exact ⟨by omega, fun _ => by omega⟩
  · refine h.all i' d' ?_ hl
    rcases hd with g | g
    · exact .inl g
    · exact .inr (by omega)⟩
theorem WideTo.turn {ns : List Int} {a b i d : Nat} (h : WideTo ns (upTo a b) i d) (hl : a + b < ns.length) (hv : areaOf ns i d < areaOf ns a b) : WideTo ns (upTo a (b + 1)) a b := ⟨hl, fun i' d' hd hl' => by
  by_cases e : i' = a ∧ d' = b
  · obtain ⟨rfl, rfl⟩ := e
    exact ⟨Int.le_refl _, fun _ => .inr ⟨rfl, Nat.le_refl _⟩⟩
  · have g := (h.all i' d' (by
      rcases hd with g | g
      · exact .inl g
      · exact .inr (by omega)) hl').1
    exact ⟨by omega, fun z => by omega⟩⟩
theorem WideTo.row {ns : List Int} {a i d : Nat} (h : WideTo ns (upTo a (ns.length - a)) i d) : WideTo ns (upTo (a + 1) 0) i d := ⟨h.there, fun i' d' hd hl => h.all i' d' (by
  rcases hd with g | g
  · by_cases e : i' = a
    · exact .inr (by omega)
    · exact .inl (by omega)
  · omega) hl⟩
theorem WideTo.fin {ns : List Int} {i d : Nat} (h : WideTo ns (upTo ns.length 0) i d) : WideTo ns (fun _ _ => True) i d := ⟨h.there, fun i' d' _ hl => h.all i' d' (.inl (by omega)) hl⟩
/-- the blocks as the law writes them -/
def blk (ns : List Int) (i d : Nat) : List Int := [-areaOf ns i d, (i : Int), (i : Int) + 1 + (d : Int)]
def blksRow (ns : List Int) (i d : Nat) : List (List Int) := (List.range d).map (blk ns i)
def blks (ns : List Int) : Nat → List (List Int)
  | 0 => []
  | i + 1 => blks ns i ++ blksRow ns i (ns.length - i)
theorem blksRow_more (ns : List Int) (i d : Nat) : blksRow ns i (d + 1) = blksRow ns i d ++ [blk ns i d] := by
  unfold blksRow
  rw [List.range_succ, List.map_append]
  rfl
theorem mem_blks {ns : List Int} : ∀ (a : Nat) (z : List Int), a ≤ ns.length → (z ∈ blks ns a ↔ ∃ i d, i < a ∧ i + d < ns.length ∧ z = blk ns i d)
  | 0, z, _ => ⟨fun h => (by cases h), fun ⟨i, d, h, _⟩ => absurd h (Nat.not_lt_zero _)⟩
  | a + 1, z, ha => by
    have ih := mem_blks (ns := ns) a z (by omega)
    show z ∈ blks ns a ++ blksRow ns a (ns.length - a) ↔ _
    rw [List.mem_append, ih]
    constructor
    · rintro (⟨i, d, h1, h2, h3⟩ | h)
      · exact ⟨i, d, by omega, h2, h3⟩
      · obtain ⟨d, hd, rfl⟩ := List.mem_map.mp h
        rw [List.mem_range] at hd
        exact ⟨a, d, by omega, by omega, rfl⟩
    · rintro ⟨i, d, h1, h2, h3⟩
      by_cases e : i = a
      · subst e
        exact .inr (List.mem_map.mpr ⟨d, List.mem_range.mpr (by omega), h3.symm⟩)
      · exact .inl ⟨i, d, by omega, h2, h3⟩
theorem lex3 {a b c x y z : Int} : ([a, b, c] : List Int) < [x, y, z] ↔ a < x ∨ (a = x ∧ (b < y ∨ (b = y ∧ c < z))) := by
  simp [List.cons_lt_cons_iff]
/-- the least of the law's blocks is the widest -/
theorem least_blk {ns : List Int} {z : List Int} (hz : z ∈ blks ns ns.length) (hl : ∀ y, y ∈ blks ns ns.length → ¬ y < z) : ∃ i d, z = blk ns i d ∧ WideTo ns (fun _ _ => True) i d := by
  obtain ⟨i, d, h1, h2, rfl⟩ := (mem_blks _ _ (Nat.le_refl _)).mp hz
  refine ⟨i, d, rfl, h2, fun i' d' _ hl' => ?_⟩
  have g := hl (blk ns i' d') ((mem_blks _ _ (Nat.le_refl _)).mpr ⟨i', d', by omega, hl', rfl⟩)
  unfold blk at g
  rw [lex3] at g
  refine ⟨?_, fun e => ?_⟩
  · refine Int.not_lt.mp fun c => g (.inl (by omega))
  · by_cases c : i < i' ∨ i = i' ∧ d ≤ d'
    · exact c
    · exact absurd (.inr ⟨by omega, by omega⟩) g
end VT
/-! ### min of a list of tuples of numbers -/
namespace VT
open PySem PySem.W PySem.Spec PyProof.Rows L2
section
variable {prog : Program} {w : World} {A : Around} {E : Value → Shared → Prop} {s : Shared}
theorem min_by_place {l : Addr} {vs : Array Value} {x : PyData} {xs : List PyData} {as : List Addr} {Q : Value → Shared → Prop} (hh : A.handled = none) (hl : s.heap.IsList l vs) (hr : ReadsAll s.heap vs.toList (x :: xs) as) (ha : AlikeAll (x :: xs)) (hu : A.units + 1 + PyData.depthAll (x :: xs) < cLine)
    (h : ∀ v h' tk, vs[argBest (fun i j => dataLt ((x :: xs).getD i .none) ((x :: xs).getD j .none)) xs.length]? = some v → (∀ b o, s.heap.get? b = some o → h'.get? b = some o) → Q v { s with heap := h', toks := tk }) :
    wpAny (model prog w) A (call (.builtin "min") [.ref l]) Q E s := by
  have hn : vs.size = xs.length + 1 := readsAll_len hr
  refine call_min_walkH (iter_listW (A := A.in1) hh hl fun s2 e W st hfp hw hk => ?_)
  refine ⟨_, _, _, _, _, _, _, s.heap, _, rfl, W, st, hfp, by omega, hw, hk, cmpIn_lt (A := A.in1) hr ha (by show A.units + 1 + _ < _; exact hu), fun v s' hP m => ?_⟩
  obtain ⟨h', tk, rfl, hk'⟩ := moved_old e rfl m
  have e1 : vs.size - 1 = xs.length := by omega
  rw [e1] at hP
  exact h v h' tk hP hk'
end
theorem best_least {z : Nat → List Int} : ∀ n : Nat, argBest (fun i j => decide (z i < z j)) n ≤ n ∧ ∀ j, j ≤ n → ¬ z j < z (argBest (fun i j => decide (z i < z j)) n)
  | 0 => ⟨Nat.le_refl _, fun j hj => by
    have e : j = 0 := by omega
    rw [e]
    exact List.lt_irrefl _⟩
  | n + 1 => by
    obtain ⟨h1, h2⟩ := best_least (z := z) n
    show (if decide (z (n + 1) < z (argBest (fun i j => decide (z i < z j)) n)) = true then n + 1 else argBest (fun i j => decide (z i < z j)) n) ≤ n + 1 ∧ ∀ j, j ≤ n + 1 → ¬ z j < z (if decide (z (n + 1) < z (argBest (fun i j => decide (z i < z j)) n)) = true then n + 1 else argBest (fun i j => decide (z i < z j)) n)
    by_cases c : z (n + 1) < z (argBest (fun i j => decide (z i < z j)) n)
    · rw [if_pos (decide_eq_true c)]
      refine ⟨Nat.le_refl _, fun j hj hlt => ?_⟩
      by_cases e : j = n + 1
      · rw [e] at hlt
        exact List.lt_irrefl _ hlt
      · exact h2 j (by omega) (List.lt_trans hlt c)
    · rw [if_neg (by rw [decide_eq_false c]; exact Bool.false_ne_true)]
      refine ⟨by omega, fun j hj => ?_⟩
      by_cases e : j = n + 1
      · rw [e]
        exact c
      · exact h2 j (by omega)
def tupD (z : List Int) : PyData := .tuple (z.map PyData.int)
theorem tup_lt (y z : List Int) : dataLt (tupD y) (tupD z) = decide (y < z) := by
  unfold tupD
  rw [dataLt_tuple]
  exact dataLt_ints y z
theorem alike_tups (zs : List (List Int)) : AlikeAll (zs.map tupD) := by
  refine ⟨fun x hx y hy => ?_, fun x hx => ?_⟩
  · obtain ⟨a, _, rfl⟩ := List.mem_map.mp hx
    obtain ⟨b, _, rfl⟩ := List.mem_map.mp hy
    show alikeAll (a.map PyData.int) (b.map PyData.int) = true
    exact alike_ints a b
  · obtain ⟨a, _, rfl⟩ := List.mem_map.mp hx
    intro h
    cases h
theorem depth_tups : ∀ zs : List (List Int), PyData.depthAll (zs.map tupD) ≤ 1
  | [] => Nat.zero_le _
  | z :: zs => by
    show max (PyData.depthAll (z.map PyData.int) + 1) (PyData.depthAll (zs.map tupD)) ≤ 1
    rw [depth_ints z]
    exact Nat.max_le.mpr ⟨Nat.le_refl _, depth_tups zs⟩
theorem dpAll_ints {K : PySem.W.Frag} {H : Hp} : ∀ z : List Int, DpAll K H (z.map V.int) (z.map PyData.int)
  | [] => .nil
  | x :: z => .cons (.int x) (dpAll_ints z)
inductive TupsAt (K : PySem.W.Frag) (H : Hp) : List V → List (List Int) → Prop where
  | nil : TupsAt K H [] []
  | cons {t : Addr} {z : List Int} {vs : List V} {zs : List (List Int)} (h : SqT K H t (z.map V.int)) (r : TupsAt K H vs zs) : TupsAt K H (.ref t :: vs) (z :: zs)
theorem TupsAt.dp {K : PySem.W.Frag} {H : Hp} : ∀ {vs : List V} {zs : List (List Int)}, TupsAt K H vs zs → DpAll K H vs (zs.map tupD)
  | _, _, .nil => .nil
  | _, _, .cons h r => .cons (.tup h (dpAll_ints _)) r.dp
theorem TupsAt.len {K : PySem.W.Frag} {H : Hp} : ∀ {vs : List V} {zs : List (List Int)}, TupsAt K H vs zs → vs.length = zs.length
  | _, _, .nil => rfl
  | _, _, .cons _ r => by rw [List.length_cons, List.length_cons, r.len]
theorem TupsAt.get {K : PySem.W.Frag} {H : Hp} : ∀ {vs : List V} {zs : List (List Int)} {i : Nat} {v : V}, TupsAt K H vs zs → vs[i]? = some v → ∃ t z, v = .ref t ∧ zs[i]? = some z ∧ SqT K H t (z.map V.int)
  | _, _, i, v, .nil, e => by simp at e
  | _, _, 0, v, .cons h r, e => ⟨_, _, (Option.some.inj e).symm, rfl, h⟩
  | _, _, i + 1, v, .cons h r, e => r.get (i := i) e
theorem TupsAt.snoc {K : PySem.W.Frag} {H : Hp} {t : Addr} {z : List Int} : ∀ {vs : List V} {zs : List (List Int)}, TupsAt K H vs zs → SqT K H t (z.map V.int) → TupsAt K H (vs ++ [.ref t]) (zs ++ [z])
  | _, _, .nil, h => .cons h .nil
  | _, _, .cons g r, h => .cons g (r.snoc h)
theorem TupsAt.mono {K : PySem.W.Frag} {H H' : Hp} (e : Same H H') : ∀ {vs : List V} {zs : List (List Int)}, TupsAt K H vs zs → TupsAt K H' vs zs
  | _, _, .nil => .nil
  | _, _, .cons g r => .cons (same_seqT e g) (r.mono e)
/-- min of a list of tuples of numbers: one of them, none is less -/
def rMinT (K : PySem.W.Frag) : List V → Hp → VK → Prop := fun xs H Q => ∃ (a : Addr) (vs : List V) (zs : List (List Int)), xs = [.ref a] ∧ SqL K H a vs ∧ TupsAt K H vs zs ∧ zs ≠ [] ∧
  ∀ (t : Addr) (z : List Int), z ∈ zs → SqT K H t (z.map V.int) → (∀ y, y ∈ zs → ¬ y < z) → Q (.ref t) H
theorem cr_minT {X : Cx} (hc : X.calm = true) (hu : X.A.units + 64 < cLine) : CallR X (.builtin "min") (rMinT X.K) := by
  intro pins s σ H vs us Q I r h
  obtain ⟨a, ys, zs, rfl, hs, ht, hne, q⟩ := h
  obtain ⟨its, rv, hl, _⟩ := I.list hs
  rw [Vals.ref1 r]
  cases zs with
  | nil => exact absurd rfl hne
  | cons z0 zr =>
    obtain ⟨as, ra⟩ := Dp.readsAll I _ _ _ ht.dp rv
    have hr : ReadsAll s.heap its.toArray.toList (tupD z0 :: zr.map tupD) as := by simpa using ra
    refine min_by_place (I.ok.hd hc) hl.isList hr (alike_tups (z0 :: zr)) (by have := depth_tups (z0 :: zr); show X.A.units + 1 + PyData.depthAll ((z0 :: zr).map tupD) < _; omega) fun v h' tk hv hk => ?_
    have eb : (fun i j => dataLt ((tupD z0 :: zr.map tupD).getD i .none) ((tupD z0 :: zr.map tupD).getD j .none)) = fun i j => dataLt (((z0 :: zr).map tupD).getD i .none) (((z0 :: zr).map tupD).getD j .none) := rfl
    rw [eb, List.length_map] at hv
    have best : ∀ n : Nat, n ≤ zr.length → argBest (fun i j => dataLt (((z0 :: zr).map tupD).getD i .none) (((z0 :: zr).map tupD).getD j .none)) n = argBest (fun i j => decide ((z0 :: zr).getD i [] < (z0 :: zr).getD j [])) n := by
      have gd : ∀ i : Nat, i ≤ zr.length → ((z0 :: zr).map tupD).getD i .none = tupD ((z0 :: zr).getD i []) := fun i hi => by
        rw [List.getD_eq_getElem?_getD, List.getElem?_map, List.getElem?_eq_getElem (by rw [List.length_cons]; omega), List.getD_eq_getElem?_getD, List.getElem?_eq_getElem (by rw [List.length_cons]; omega)]
        rfl
      intro n
      induction n with
      | zero => exact fun _ => rfl
      | succ n ih =>
        intro hn
        have hb := (best_least (z := fun i => (z0 :: zr).getD i []) n).1
        show (if dataLt (((z0 :: zr).map tupD).getD (n + 1) .none) (((z0 :: zr).map tupD).getD (argBest _ n) .none) = true then n + 1 else argBest _ n) = (if decide ((z0 :: zr).getD (n + 1) [] < (z0 :: zr).getD (argBest _ n) []) = true then n + 1 else argBest _ n)
        rw [ih (by omega), gd (n + 1) hn, gd _ (by omega), tup_lt]
    rw [best zr.length (Nat.le_refl _)] at hv
    obtain ⟨b1, b2⟩ := best_least (z := fun i => (z0 :: zr).getD i []) zr.length
    generalize argBest (fun i j => decide ((z0 :: zr).getD i [] < (z0 :: zr).getD j [])) zr.length = best at hv b1 b2
    have hlen := ht.len
    obtain ⟨y, hy⟩ : ∃ y, ys[best]? = some y := ⟨_, List.getElem?_eq_getElem (by rw [hlen, List.length_cons]; omega)⟩
    obtain ⟨t, z, rfl, hz, hT⟩ := ht.get hy
    obtain ⟨u, hu2, ru⟩ := rv.get hy
    have ev : v = u := by
      have : its.toArray[best]? = some u := by simpa using hu2
      rw [this] at hv
      exact (Option.some.inj hv).symm
    subst ev
    have ez : (z0 :: zr).getD best [] = z := by rw [List.getD_eq_getElem?_getD, hz] <;> rfl
    refine ⟨.ref t, H, I.kept hk, ru, q t z (List.mem_of_getElem? hz) hT fun y hy => ?_⟩
    obtain ⟨j, hj⟩ := List.mem_iff_getElem?.mp hy
    have hjl : j < (z0 :: zr).length := (List.getElem?_eq_some_iff.mp hj).1
    rw [List.length_cons] at hjl
    have e3 : (z0 :: zr).getD j [] = y := by rw [List.getD_eq_getElem?_getD, hj] <;> rfl
    have := b2 j (by omega)
    rw [ez] at this
    rw [← e3]
    exact this
end VT
namespace VT
open PySem PySem.W PySem.Spec PyProof.Rows L2
/-- tuples of numbers, plainly there -/
inductive TupsP (H : Hp) : List V → List (List Int) → Prop where
  | nil : TupsP H [] []
  | cons {t : Addr} {z : List Int} {vs : List V} {zs : List (List Int)} (h : H t = some (.tup (z.map V.int))) (r : TupsP H vs zs) : TupsP H (.ref t :: vs) (z :: zs)
theorem TupsP.to {K : PySem.W.Frag} {H : Hp} : ∀ {vs : List V} {zs : List (List Int)}, TupsP H vs zs → TupsAt K H vs zs
  | _, _, .nil => .nil
  | _, _, .cons h r => .cons (SqT.tup h) r.to
theorem TupsP.snoc {H : Hp} {t : Addr} {z : List Int} : ∀ {vs : List V} {zs : List (List Int)}, TupsP H vs zs → H t = some (.tup (z.map V.int)) → TupsP H (vs ++ [.ref t]) (zs ++ [z])
  | _, _, .nil, h => .cons h .nil
  | _, _, .cons g r, h => .cons g (r.snoc h)
theorem TupsP.mono {H H' : Hp} (e : Same H H') : ∀ {vs : List V} {zs : List (List Int)}, TupsP H vs zs → TupsP H' vs zs
  | _, _, .nil => .nil
  | _, _, .cons g r => .cons (e _ _ g) (r.mono e)
theorem TupsP.up {H : Hp} {f : Addr} {ys : List V} {o : HO} (hf : H f = some (.lst ys)) : ∀ {vs : List V} {zs : List (List Int)}, TupsP H vs zs → TupsP (upd H f o) vs zs
  | _, _, .nil => .nil
  | _, _, .cons (t := t) g r => .cons (up_get (fun z => by rw [z, hf] at g; cases g) g) (r.up hf)
theorem TupsP.len {H : Hp} : ∀ {vs : List V} {zs : List (List Int)}, TupsP H vs zs → vs.length = zs.length
  | _, _, .nil => rfl
  | _, _, .cons _ r => congrArg (· + 1) r.len
theorem r_minT {K : PySem.W.Frag} {H : Hp} {Q : VK} {a : Addr} {vs : List V} {zs : List (List Int)} (h : SqL K H a vs) (ht : TupsP H vs zs) (hn : zs ≠ []) (q : ∀ (t : Addr) (z : List Int), z ∈ zs → SqT K H t (z.map V.int) → (∀ y, y ∈ zs → ¬ y < z) → Q (.ref t) H) : rMinT K [.ref a] H Q := ⟨a, vs, zs, rfl, h, ht.to, hn, q⟩
theorem blksRow_len (ns : List Int) (i d : Nat) : (blksRow ns i d).length = d := by
  unfold blksRow
  rw [List.length_map, List.length_range]
theorem blks_len {ns : List Int} (hn : ns.length ≤ 40) : ∀ {i : Nat}, i ≤ ns.length → (blks ns i).length ≤ 40 * i
  | 0, _ => Nat.le_refl _
  | i + 1, h => by
    have ih := blks_len hn (i := i) (by omega)
    show (blks ns i ++ blksRow ns i (ns.length - i)).length ≤ _
    rw [List.length_append, blksRow_len]
    omega
end VT
local macro_rules | `(tactic| walk_at "ne") => `(tactic| first | assumption | exact Ne.symm (by assumption) | ((refine' VT.ne_new ?h1 ?h2); (case h1 => assumption); (case h2 => walk_at "hp")) | ((refine' VT.ne_new' ?h1 ?h2); (case h1 => assumption); (case h2 => walk_at "hp")))
local macro_rules | `(tactic| walk_at "hp") => `(tactic| first | assumption | exact L2.upd_same | ((refine' VT.up_get ?n ?h); (case n => walk_at "ne"); (case h => walk_at "hp")) | ((refine' VT.Same.get ?e ?h); (case e => assumption); (case h => walk_at "hp")) | ((refine' VT.But.get ?e ?n ?h); (case e => assumption); (case n => walk_at "ne"); (case h => walk_at "hp")))
local macro_rules | `(tactic| walk_at "fr") => `(tactic| first | assumption | ((refine' L2.Same.free ?e ?h); (case h => assumption); (case e => walk_at "sm")))
local macro_rules | `(tactic| walk_at "sm") => `(tactic| first | assumption | exact L2.Same.refl _ | ((refine' VT.same_new2 ?e ?h); (case h => assumption); (case e => walk_at "sm")) | ((refine' VT.same_mut ?e ?h); (case h => walk_at "fr"); (case e => walk_at "sm")) | ((refine' L2.Same.trans ?a ?b); (case b => assumption); (case a => walk_at "sm")) | ((refine' VT.same_but ?a ?b ?c); (case b => assumption); (case c => walk_at "fr"); (case a => walk_at "sm")))
local macro_rules | `(tactic| walk_at "sq") => `(tactic| first | assumption | ((refine' VT.SqL.lst ?h); (case h => walk_at "hp")) | ((refine' L2.Same.seq ?e ?h); (case h => assumption); (case e => walk_at "sm")))
local macro_rules | `(tactic| walk_at "sqT") => `(tactic| first | assumption | ((refine' VT.SqT.tup ?h); (case h => walk_at "hp")) | ((refine' VT.same_seqT ?e ?h); (case h => assumption); (case e => walk_at "sm")))
local macro_rules | `(tactic| walk_at "cond") => `(tactic| first | omega | (show (0 : Int) < _; omega) | exact ⟨by omega, by omega, by omega, by omega⟩ | exact ⟨by decide, by decide⟩ | exact ⟨by omega, by omega⟩ | exact Or.inl ⟨by omega, by omega⟩ | exact Or.inr ⟨by omega, by omega⟩ | exact ⟨by omega, by omega, by omega⟩ | decide)
local macro_rules | `(tactic| walk_at "go1") => `(tactic| first
  | with_reducible refine' VT.r_seq ?_ | with_reducible refine' VT.r_asg ?_ | with_reducible refine' VT.r_name ?_ | with_reducible refine' VT.r_sub ?_ | ((with_reducible refine' VT.r_var ?h ?_); (case h => exact rfl)) | with_reducible refine' VT.r_c ?_
  | with_reducible refine' VT.r_op ?_ | with_reducible refine' VT.r_I0 ?_ | with_reducible refine' VT.r_eqI ?_ | with_reducible refine' VT.r_neI ?_ | with_reducible refine' VT.r_eqB ?_ | with_reducible refine' VT.r_neB ?_
  | with_reducible refine' VT.r_test ?_ | with_reducible refine' VT.r_B ?_ | with_reducible refine' VT.r_bl ?_ | with_reducible refine' VT.r_cons ?_ | with_reducible refine' VT.r_nil ?_ | with_reducible refine' VT.r_CB ?_ | with_reducible refine' VT.r_call ?_
  | ((with_reducible refine' VT.r_I ?c ?_); (case c => walk_at "cond")) | ((with_reducible refine' VT.r_lenI ?s ?_); (case s => walk_at "sq")) | ((with_reducible refine' VT.r_len ?s ?_); (case s => walk_at "sq")) | ((with_reducible refine' VT.r_lenT ?s ?_); (case s => walk_at "sqT")) | ((with_reducible refine' VT.r_ixL ?s ?a ?_); (case s => walk_at "sq"); (case a => walk_at "at")) | ((with_reducible refine' VT.r_ixT ?s ?a ?_); (case s => walk_at "sqT"); (case a => walk_at "at"))
  | with_reducible refine' VT.r_for1 ?_ | ((with_reducible refine' VT.r_rng1 ?c ?_); (case c => walk_at "cond")) | with_reducible refine' VT.r_for2 ?_ | ((with_reducible refine' VT.r_rng2 ?c ?_); (case c => walk_at "cond")) | with_reducible refine' VT.r_forL ?_ | ((with_reducible refine' VT.r_itL ?s ?_); (case s => walk_at "sq")) | with_reducible refine' VT.r_forC ?_ | with_reducible refine' VT.r_forT ?_ | ((with_reducible refine' VT.r_itT ?s ?_); (case s => walk_at "sqT"))
  | with_reducible refine' VT.r_lc1 ?_ | with_reducible refine' VT.r_lc2 ?_ | with_reducible refine' VT.r_lcL ?_ | with_reducible refine' VT.r_yes ?_
  | with_reducible refine' VT.r_drop ?_ | with_reducible refine' VT.r_ret ?_ | with_reducible refine' VT.r_retN ?_ | with_reducible refine' VT.r_if ?_ | with_reducible refine' VT.r_next ?_ | with_reducible refine' VT.r_chain ?_ | with_reducible refine' VT.r_chain3 ?_ | with_reducible refine' VT.r_sFld ?_ | with_reducible refine' VT.r_not ?_
  | with_reducible refine' VT.r_andV ?_ | with_reducible refine' VT.r_orV ?_ | with_reducible refine' VT.r_notV ?_ | with_reducible refine' VT.r_ifE ?_ | with_reducible refine' VT.r_lst ?_ | with_reducible refine' VT.r_tup ?_ | with_reducible refine' VT.r_sl ?_ | with_reducible refine' VT.r_part ?_ | with_reducible refine' VT.r_int ?_ | with_reducible refine' VT.r_noPart ?_
  | with_reducible refine' VT.r_bm ?_ | with_reducible refine' VT.r_bm0 ?_ | with_reducible refine' VT.r_fld ?_ | with_reducible refine' VT.r_un ?_ | with_reducible refine' VT.r_U ?_ | with_reducible refine' VT.r_isN ?_ | with_reducible refine' VT.r_notN ?_ | with_reducible refine' VT.r_meth ?_ | with_reducible refine' VT.r_make ?_
  | ((with_reducible refine' VT.r_tyL ?s ?_); (case s => walk_at "sq")) | ((with_reducible refine' VT.r_app ?h ?z ?_); (case h => walk_at "hp"); (case z => walk_at "len")) | ((with_reducible refine' VT.r_fldR ?h ?c ?n ?_); (case h => walk_at "hp"); (case c => assumption); (case n => assumption)) | ((with_reducible refine' VT.r_methR ?h ?m ?_); (case h => walk_at "hp"); (case m => decide +kernel)) | ((with_reducible refine' VT.r_new ?z ?_); (case z => exact Nat.le_of_ble_eq_true rfl)))
local macro_rules | `(tactic| walk_at "andor") => `(tactic| first | with_reducible refine' VT.r_and ?_ | with_reducible refine' VT.r_or ?_)
local macro_rules | `(tactic| walk_at "go") => `(tactic| repeat walk_at "go1")
local macro_rules | `(tactic| walk_at "at") => `(tactic| first | assumption | exact L2.atI_nat (by assumption) | exact VT.r_at (by assumption) (by assumption) | exact VT.r_at (by omega) (by assumption) | exact VT.r_at rfl (by assumption) | exact VT.r_at (j := 0) rfl rfl | exact VT.r_at (j := 1) rfl rfl | exact VT.r_at (j := 2) rfl rfl)
local macro_rules | `(tactic| walk_at "len") => `(tactic| (simp only [List.length_map, List.length_append, List.length_cons, List.length_nil, List.length_take, List.length_drop, List.length_replicate]; omega))
local macro_rules | `(tactic| walk_at "and") => `(tactic| ((with_reducible refine' VT.r_andD ?a ?b ?_); (case a => intro Z h; walk_at "go"; exact h); (case b => intro Z h; walk_at "go"; exact h)))
local macro_rules | `(tactic| walk_at "or") => `(tactic| ((with_reducible refine' VT.r_orD ?a ?b ?_); (case a => intro Z h; walk_at "go"; exact h); (case b => intro Z h; walk_at "go"; exact h)))
local macro_rules | `(tactic| walk_at "and") => `(tactic| ((with_reducible refine' VT.r_andD ?a ?b ?_); (case a => (intro Z h); (walk_at "go"); exact h); (case b => (intro Z h); (walk_at "go"); exact h)))
local macro_rules | `(tactic| walk_at "or") => `(tactic| ((with_reducible refine' VT.r_orD ?a ?b ?_); (case a => (intro Z h); (walk_at "go"); exact h); (case b => (intro Z h); (walk_at "go"); exact h)))
namespace VT
open PySem PySem.Spec PyProof.Rows L2
def top (i : Nat) : Stmt := PySem.Challenge.pw_valleytree_k12_widest_blocks.main.body.getD i (.Pass ⟨0, 0, 0, 0⟩)
abbrev s_ask_sky : Stmt := top 8
abbrev s_Row_numbers : Stmt := inClass (top 12) 3
abbrev s_widest : Stmt := top 9
abbrev s_Row___init__ : Stmt := inClass (top 12) 0
abbrev s_Row_ask : Stmt := inClass (top 12) 1
abbrev s_Row_ask_stretch : Stmt := inClass (top 12) 2
abbrev s_Row_set_at : Stmt := inClass (top 12) 4
abbrev s_Row_take_out : Stmt := inClass (top 12) 5
abbrev s_Row_put_in : Stmt := inClass (top 12) 6
abbrev s_Row_add_to : Stmt := inClass (top 12) 7
abbrev s__law_cell_at : Stmt := top 14
abbrev s__law_whole : Stmt := top 15
abbrev s__law_draw : Stmt := top 16
abbrev s__law_row : Stmt := top 17
abbrev s__law_right : Stmt := top 18
abbrev s__law_deed : Stmt := top 19
abbrev s_law : Stmt := top 20
structure Txt (K : PySem.W.Frag) (mg : Str → Option Value) (C : Addr) : Prop where
  cl : Cls K C
  nK : NoAttr K C "kept"
  mgC : mg "Row" = some (.ref C)
  b_abs : mg "abs" = none
  b_bool : mg "bool" = none
  b_int : mg "int" = none
  b_isinstance : mg "isinstance" = none
  b_len : mg "len" = none
  b_list : mg "list" = none
  b_min : mg "min" = none
  b_range : mg "range" = none
  b_tuple : mg "tuple" = none
  g_MOST : ∃ u, mg "MOST" = some u ∧ RelV (.int 40) u
section
variable {P : Program} {w : World} {K : PySem.W.Frag} {mg : Str → Option Value} {base : Heap} {C : Addr}
theorem sc_ask_sky : FnScope ["numbers", "number"] ["numbers"] (defScope s_ask_sky) := ⟨rfl, rfl, rfl, by decide +kernel, rfl, by decide +kernel, by decide +kernel⟩
def sp_ask_sky (K : PySem.W.Frag) (_ : Addr) : Sp := fun vs H Q _ => ∃ (a : Addr) (ns : List Int), vs = [.ref a] ∧ SqL K H a (ns.map V.int) ∧ (∀ x ∈ ns, 0 ≤ x) ∧ Q .non H
theorem ok_ask_sky {f : Addr} {fd : FuncData} (F : Fun K "ask_sky" "ask_sky" s_ask_sky f fd) (T : Txt K mg C)  : FnOk P w K mg base CX0 1 f fd ["numbers"] (sp_ask_sky K C) := by
  refine F.ok sc_ask_sky (fun vs H Q E h => ?_) (fun cdv A outer s H vs Q E hr h => ?_)
  · obtain ⟨a, ns, rfl, hS, hn, q⟩ := h
    rfl
  · obtain ⟨a, ns, rfl, hS, hn, q⟩ := h
    have hcl := T.cl
    have hnK := T.nK
    refine ⟨_, (pss_one (ps_for PassesOwn.never rfl (pi_list (pv 0)) (pg_name (i := 1) sc_ask_sky.nd rfl (by first | exact Or.inl rfl | exact Or.inr rfl)) (pss_one (ps_if (pt_cmpR op_lt (pv 1) pe_int (nomark _)) (pss_one ps_never) pss_nil)))), ?_⟩
    walk_at "go"
    refine r_loopI (ns := ns) (fun i σ H' => H' = H ∧ ∃ v, σ = [some (.ref a), v]) ⟨rfl, _, rfl⟩ (fun i σ H' _ hp => hp.1 ▸ hS) ?_ ?_
    · rintro i z σ H' hz ⟨rfl, v, rfl⟩
      have h0 := hn z (List.mem_of_getElem? hz)
      walk_at "go"
      refine brF (by omega) ?_
      walk_at "go"
      exact ⟨rfl, _, rfl⟩
    · rintro σ H' ⟨rfl, v, rfl⟩
      exact q
theorem sc_Row_numbers : FnScope ["self"] ["self"] (defScope s_Row_numbers) := ⟨rfl, rfl, rfl, by decide +kernel, rfl, by decide +kernel, by decide +kernel⟩
def sp_Row_numbers (_ : PySem.W.Frag) (C : Addr) : Sp := fun vs H Q _ => ∃ (p dx l : Addr) (ns : List Int), vs = [.ref p] ∧ H p = some (.ins C dx (rowF l)) ∧ H l = some (.lst (ns.map V.int)) ∧
  ∀ (a : Addr), H a = none → Q (.ref a) (upd H a (.lst (ns.map V.int)))
theorem ok_Row_numbers {f : Addr} {fd : FuncData} (F : Fun K "numbers" "Row.numbers" s_Row_numbers f fd) (T : Txt K mg C)  : FnOk P w K mg base CX0 1 f fd ["self"] (sp_Row_numbers K C) := by
  refine F.ok sc_Row_numbers (fun vs H Q E h => ?_) (fun cdv A outer s H vs Q E hr h => ?_)
  · obtain ⟨p, dx, l, ns, rfl, hp, hL, q⟩ := h
    rfl
  · obtain ⟨p, dx, l, ns, rfl, hp, hL, q⟩ := h
    have hcl := T.cl
    have hnK := T.nK
    refine ⟨_, (pss_one (ps_ret (pe_callTy c_listOf (by rfl) T.b_list (by decide +kernel) (pa_cons (pe_fld (pv 0) rfl) pa_nil)))), ?_⟩
    walk_at "go"
    refine r_listOf (VT.SqL.lst hL) fun a na => ?_
    exact q a na
theorem minTo_step {ns : List Int} {i d : Nat} {z : Int} (ez : ns.getD (i + d) 0 = z) : (if z < minTo ns i (d - 1) then z else minTo ns i (d - 1)) = minTo ns i d := by
  cases d with
  | zero =>
    show (if z < ns.getD i 0 then z else ns.getD i 0) = ns.getD i 0
    rw [← ez, Nat.add_zero]
    split <;> rfl
  | succ d =>
    show (if z < minTo ns i d then z else minTo ns i d) = (if ns.getD (i + (d + 1)) 0 < minTo ns i d then ns.getD (i + (d + 1)) 0 else minTo ns i d)
    rw [ez]
theorem sc_widest : FnScope ["row", "numbers", "found", "first", "low", "behind"] ["row"] (defScope s_widest) := ⟨rfl, rfl, rfl, by decide +kernel, rfl, by decide +kernel, by decide +kernel⟩
def sp_widest (_ : PySem.W.Frag) (C : Addr) : Sp := fun vs H Q _ => ∃ (p dx l : Addr) (ns : List Int), vs = [.ref p] ∧ H p = some (.ins C dx (rowF l)) ∧ H l = some (.lst (ns.map V.int)) ∧ ns.length ≤ 40 ∧ 0 < ns.length ∧ (∀ x ∈ ns, 0 ≤ x) ∧
  ∀ (t : Addr) (H' : Hp) (i d : Nat), Same H H' → H t = none → H' t = some (.tup [.int (areaOf ns i d), .int (i : Int), .int ((i : Int) + 1 + (d : Int))]) → WideTo ns (fun _ _ => True) i d → Q (.ref t) H'
theorem ok_widest {f : Addr} {fd : FuncData} (F : Fun K "widest" "widest" s_widest f fd) (T : Txt K mg C) (c_ask_sky : C8.Cal P w K mg base 1 "ask_sky" (sp_ask_sky K C) []) (c_Row_numbers : C8.Met P w K mg base 1 C "numbers" (sp_Row_numbers K C) []) : FnOk P w K mg base CX0 2 f fd ["row"] (sp_widest K C) := by
  refine F.ok sc_widest (fun vs H Q E h => ?_) (fun cdv A outer s H vs Q E hr h => ?_)
  · obtain ⟨p, dx, l, ns, rfl, hp, hL, hn, hn0, hnn, q⟩ := h
    rfl
  · obtain ⟨p, dx, l, ns, rfl, hp, hL, hn, hn0, hnn, q⟩ := h
    have hcl := T.cl
    have hnK := T.nK
    refine ⟨_, (pss_cons (ps_set (i := 1) sc_widest.nd rfl (by first | exact Or.inl rfl | exact Or.inr rfl) (C8.pe_mt0 c_Row_numbers hr (by decide) (pv 0)))
      (pss_cons (ps_expr (C8.pe_c c_ask_sky hr (by decide) rfl (pa_cons (pv 1) pa_nil)))
      (pss_cons (ps_if (pt_cmpR op_eq (pe_callB c_len (by rfl) T.b_len PySem.boot_len (pa_cons (pv 1) pa_nil)) pe_int (nomark _)) (pss_one ps_never) pss_nil)
      (pss_cons (ps_set (i := 2) sc_widest.nd rfl (by first | exact Or.inl rfl | exact Or.inr rfl) (pe_tup (pa_cons (pe_ix ix_list (pv 1) pe_int (fun _ _ => rfl)) (pa_cons pe_int (pa_cons pe_int pa_nil)))))
      (pss_cons (ps_for PassesOwn.never rfl (pi_range1 (by rfl) T.b_range (pa_cons (pe_callB c_len (by rfl) T.b_len PySem.boot_len (pa_cons (pv 1) pa_nil)) pa_nil)) (pg_name (i := 3) sc_widest.nd rfl (by first | exact Or.inl rfl | exact Or.inr rfl)) (pss_cons (ps_set (i := 4) sc_widest.nd rfl (by first | exact Or.inl rfl | exact Or.inr rfl) (pe_ix ix_list (pv 1) (pv 3) (fun _ _ => rfl)))
      (pss_one (ps_for PassesOwn.never rfl (pi_range2 (by rfl) T.b_range (pa_cons (pe_op op_add (pv 3) pe_int) (pa_cons (pe_op op_add (pe_callB c_len (by rfl) T.b_len PySem.boot_len (pa_cons (pv 1) pa_nil)) pe_int) pa_nil))) (pg_name (i := 5) sc_widest.nd rfl (by first | exact Or.inl rfl | exact Or.inr rfl)) (pss_cons (ps_set (i := 4) sc_widest.nd rfl (by first | exact Or.inl rfl | exact Or.inr rfl) (pe_callB (c_min2 rfl) (by rfl) T.b_min (by decide +kernel) (pa_cons (pv 4) (pa_cons (pe_ix ix_list (pv 1) (pe_op op_sub (pv 5) pe_int) (fun _ _ => rfl)) pa_nil))))
      (pss_one (ps_if (pt_cmpR op_gt (pe_op op_mul (pv 4) (pe_op op_sub (pv 5) (pv 3))) (pe_ix ix_tup (pv 2) pe_int (fun _ _ => rfl)) (nomark _)) (pss_one (ps_set (i := 2) sc_widest.nd rfl (by first | exact Or.inl rfl | exact Or.inr rfl) (pe_tup (pa_cons (pe_op op_mul (pv 4) (pe_op op_sub (pv 5) (pv 3))) (pa_cons (pv 3) (pa_cons (pv 5) pa_nil)))))) pss_nil)))))))
      (pss_one (ps_ret (pv 2)))))))), ?_⟩
    walk_at "go"
    refine ⟨p, dx, l, ns, rfl, hp, hL, fun n nn => ?_⟩
    have sA := same_new nn (.lst (ns.map V.int))
    have hN := @upd_same H n (.lst (ns.map V.int))
    generalize upd H n (.lst (ns.map V.int)) = H0 at sA hN
    walk_at "go"
    refine ⟨n, ns, rfl, VT.SqL.lst hN, hnn, ?_⟩
    walk_at "go"
    refine brF (by omega) ?_
    have hI0 : (ns.map V.int)[0]? = some (.int (ns.getD 0 0)) := by
      rw [List.getElem?_map, getD_at' hn0] <;> rfl
    walk_at "go"
    intro t0 nt0
    have sB := same_new nt0 (.tup [V.int (ns.getD 0 0), V.int 0, V.int 1])
    have hT0 : upd H0 t0 (.tup [V.int (ns.getD 0 0), V.int 0, V.int 1]) t0 = some (.tup [V.int (areaOf ns 0 0), .int ((0 : Nat) : Int), .int (((0 : Nat) : Int) + 1 + ((0 : Nat) : Int))]) := by
      rw [upd_same]
      unfold areaOf minTo
      simp
    have fr0 : H t0 = none := sA.free nt0
    have hN1 := sB _ _ hN
    have s0 := sA.trans sB
    generalize upd H0 t0 (.tup [V.int (ns.getD 0 0), V.int 0, V.int 1]) = H1 at hT0 hN1 s0
    walk_at "go"
    refine r_loop0 (fun a σ H' => ∃ (t : Addr) (i d : Nat) (v1 v2 v3 : Option V), σ = [some (.ref p), some (.ref n), some (.ref t), v1, v2, v3] ∧ Same H H' ∧ H t = none ∧ H' n = some (.lst (ns.map V.int)) ∧ H' t = some (.tup [.int (areaOf ns i d), .int (i : Int), .int ((i : Int) + 1 + (d : Int))]) ∧ WideTo ns (upTo a 0) i d ∧ (i < a ∨ i = 0 ∧ d = 0)) ?_ ?_ ?_
    · exact ⟨t0, 0, 0, _, _, _, rfl, s0, fr0, hN1, hT0, WideTo.start hn0, .inr ⟨rfl, rfl⟩⟩
    · rintro a σ H2 ha ⟨t, i, d, v1, v2, v3, rfl, s2, frt, hN2, hT2, hW, hid⟩
      have ha' : a < ns.length := by omega
      have hI : (ns.map V.int)[a]? = some (.int (ns.getD a 0)) := by
        rw [List.getElem?_map, getD_at' ha'] <;> rfl
      walk_at "go"
      refine r_loopR (fun b σ H' => ∃ (t : Addr) (i d : Nat) (v3 : Option V), σ = [some (.ref p), some (.ref n), some (.ref t), some (.int (a : Int)), some (.int (minTo ns a (b - 1))), v3] ∧ Same H H' ∧ H t = none ∧ H' n = some (.lst (ns.map V.int)) ∧ H' t = some (.tup [.int (areaOf ns i d), .int (i : Int), .int ((i : Int) + 1 + (d : Int))]) ∧ WideTo ns (upTo a b) i d ∧ (i < a ∨ i = a ∧ d ≤ b ∨ i = 0 ∧ d = 0)) ?_ ?_ ?_
      · exact ⟨t, i, d, _, rfl, s2, frt, hN2, hT2, hW, hid.elim .inl (fun h => .inr (.inr h))⟩
      · rintro b σ H3 hb ⟨t, i, d, v3, rfl, s3, frt, hN3, hT3, hW, hid⟩
        have hb' : a + b < ns.length := by omega
        have hB : (ns.map V.int)[a + b]? = some (.int (ns.getD (a + b) 0)) := by
          rw [List.getElem?_map, getD_at' hb'] <;> rfl
        walk_at "go"
        refine r_ixL (VT.SqL.lst hN3) (r_at (j := a + b) (by omega) hB) ?_
        walk_at "go"
        refine r_min2 ?_
        rw [minTo_step rfl]
        walk_at "go"
        have ear : minTo ns a b * ((a : Int) + 1 + (b : Int) - (a : Int)) = areaOf ns a b := by
          unfold areaOf
          congr 1
          omega
        rw [ear]
        have elow : minTo ns a b = minTo ns a (b + 1 - 1) := rfl
        refine brD (fun c => ?_) (fun c => ?_)
        · walk_at "go"
          rw [ear]
          intro t2 nt2
          have sC := same_new nt2 (.tup [V.int (areaOf ns a b), V.int (a : Int), V.int ((a : Int) + 1 + (b : Int))])
          walk_at "go"
          exact ⟨t2, a, b, _, rfl, s3.trans sC, s3.free nt2, sC _ _ hN3, upd_same, hW.turn hb' c, .inr (.inl ⟨rfl, by omega⟩)⟩
        · walk_at "go"
          refine ⟨t, i, d, _, rfl, s3, frt, hN3, hT3, hW.keep ?_ c, ?_⟩
          · rcases hid with h | h | h
            · exact .inl h
            · exact .inr h
            · omega
          · rcases hid with h | h | h
            · exact .inl h
            · exact .inr (.inl ⟨h.1, by omega⟩)
            · exact .inr (.inr h)
      · rintro σ H3 ⟨t, i, d, v3, rfl, s3, frt, hN3, hT3, hW, hid⟩
        have e : ((ns.length : Int) + 1 - ((a : Int) + 1)).toNat = ns.length - a := by omega
        rw [e] at hW
        refine ⟨t, i, d, _, _, _, rfl, s3, frt, hN3, hT3, hW.row, ?_⟩
        omega
    · rintro σ H2 ⟨t, i, d, v1, v2, v3, rfl, s2, frt, hN2, hT2, hW, hid⟩
      have e : ((ns.length : Int)).toNat = ns.length := by omega
      rw [e] at hW
      walk_at "go"
      exact q t H2 i d s2 frt hT2 hW.fin
theorem sc_Row___init__ : FnScope ["self", "numbers"] ["self", "numbers"] (defScope s_Row___init__) := ⟨rfl, rfl, rfl, by decide +kernel, rfl, by decide +kernel, by decide +kernel⟩
def sp_Row___init__ (K : PySem.W.Frag) (C : Addr) : Sp := fun vs H Q _ => ∃ (p dx a : Addr) (ns : List Int), vs = [.ref p, .ref a] ∧ H p = some (.ins C dx []) ∧ SqL K H a (ns.map V.int) ∧ ns.length ≤ 40 ∧
  ∀ (l : Addr) (H' : Hp), H l = none → But p H H' → H' p = some (.ins C dx (rowF l)) → H' l = some (.lst (ns.map V.int)) → Q .non H'
theorem ok_Row___init__ {f : Addr} {fd : FuncData} (F : Fun K "__init__" "Row.__init__" s_Row___init__ f fd) (T : Txt K mg C)  : FnOk P w K mg base CX0 1 f fd ["self", "numbers"] (sp_Row___init__ K C) := by
  refine F.ok sc_Row___init__ (fun vs H Q E h => ?_) (fun cdv A outer s H vs Q E hr h => ?_)
  · obtain ⟨p, dx, a, ns, rfl, hp, hS, hl, q⟩ := h
    rfl
  · obtain ⟨p, dx, a, ns, rfl, hp, hS, hl, q⟩ := h
    have hcl := T.cl
    have hnK := T.nK
    refine ⟨_, (pss_cons (ps_if (pt_cmpR op_gt (pe_callB c_len (by rfl) T.b_len PySem.boot_len (pa_cons (pv 1) pa_nil)) (C8.pe_gc (v := .int 40) (by rfl) T.g_MOST) (nomark _)) (pss_one ps_never) pss_nil)
      (pss_one (ps_fld (pv 0) (pe_callTy c_listOf (by rfl) T.b_list (by decide +kernel) (pa_cons (pv 1) pa_nil)) rfl))), ?_⟩
    walk_at "go"
    try rw [List.length_map]
    refine brF (by omega) ?_
    walk_at "go"
    refine r_listOf hS fun l nl => ?_
    walk_at "go"
    have npl : p ≠ l := ne_of_none hp nl
    refine ⟨p, C, dx, [], rfl, up_get npl hp, T.cl, T.nK, (by show 0 < 1000; decide), ?_⟩
    exact q l _ nl (But.of (same_new nl _)).up upd_same (up_get npl.symm upd_same)
/-- Row(..) of a readable list of numbers -/
theorem mk_row {K : PySem.W.Frag} {C a : Addr} {ns : List Int} {H : Hp} {N : Addr → Hp → Prop} {E : XK} (hS : SqL K H a (ns.map V.int)) (hl : ns.length ≤ 40)
    (q : ∀ (x l d : Addr) (H' : Hp), Same H H' → H x = none → H l = none → x ≠ l → H' x = some (.ins C d (rowF l)) → H' l = some (.lst (ns.map V.int)) → N x H') :
    ∀ x dx, H x = none → H dx = none → dx ≠ x → sp_Row___init__ K C (.ref x :: ([.ref a] ++ [])) (upd (upd H dx (.own x)) x (.ins C dx [])) (fun v H2 => v = .non ∧ N x H2) E := by
  intro x dx nx ndx nex
  have s0 : Same H (upd (upd H dx (.own x)) x (.ins C dx [])) := fun b o e => by
    rw [upd_ne (ne_of_none e nx), upd_ne (ne_of_none e ndx)]
    exact e
  refine ⟨x, dx, a, ns, rfl, upd_same, s0.seq hS, hl, fun l H' nl b hx hL => ⟨rfl, ?_⟩⟩
  exact q x l dx H' (same_made nx ndx b) nx (s0.free nl) (ne_of_none upd_same nl) hx hL
theorem sc_Row_ask : FnScope ["self", "place", "many"] ["self", "place", "many"] (defScope s_Row_ask) := ⟨rfl, rfl, rfl, by decide +kernel, rfl, by decide +kernel, by decide +kernel⟩
def sp_Row_ask (_ : PySem.W.Frag) (_ : Addr) : Sp := fun vs H Q _ => ∃ (x : V) (i m : Int), vs = [x, .int i, .int m] ∧ 0 ≤ i ∧ i < m ∧ Q .non H
theorem ok_Row_ask {f : Addr} {fd : FuncData} (F : Fun K "ask" "Row.ask" s_Row_ask f fd) (T : Txt K mg C)  : FnOk P w K mg base CX0 1 f fd ["self", "place", "many"] (sp_Row_ask K C) := by
  refine F.ok sc_Row_ask (fun vs H Q E h => ?_) (fun cdv A outer s H vs Q E hr h => ?_)
  · obtain ⟨x, i, m, rfl, h0, h1, q⟩ := h
    rfl
  · obtain ⟨x, i, m, rfl, h0, h1, q⟩ := h
    have hcl := T.cl
    have hnK := T.nK
    refine ⟨_, (pss_one (ps_if (pt_not (pt_chain op_le op_lt pe_int (pv 1) (pv 2))) (pss_one ps_never) pss_nil)), ?_⟩
    walk_at "go"
    refine brT (by omega) ?_
    walk_at "go"
    rw [decide_eq_true h1]
    refine iteF ?_
    walk_at "go"
    exact q
theorem sc_Row_ask_stretch : FnScope ["self", "first", "behind"] ["self", "first", "behind"] (defScope s_Row_ask_stretch) := ⟨rfl, rfl, rfl, by decide +kernel, rfl, by decide +kernel, by decide +kernel⟩
def sp_Row_ask_stretch (_ : PySem.W.Frag) (C : Addr) : Sp := fun vs H Q _ => ∃ (p dx l : Addr) (ns : List Int) (i j : Int), vs = [.ref p, .int i, .int j] ∧ H p = some (.ins C dx (rowF l)) ∧ H l = some (.lst (ns.map V.int)) ∧ 0 ≤ i ∧ i < j ∧ j ≤ (ns.length : Int) ∧ Q .non H
theorem ok_Row_ask_stretch {f : Addr} {fd : FuncData} (F : Fun K "ask_stretch" "Row.ask_stretch" s_Row_ask_stretch f fd) (T : Txt K mg C)  : FnOk P w K mg base CX0 1 f fd ["self", "first", "behind"] (sp_Row_ask_stretch K C) := by
  refine F.ok sc_Row_ask_stretch (fun vs H Q E h => ?_) (fun cdv A outer s H vs Q E hr h => ?_)
  · obtain ⟨p, dx, l, ns, i, j, rfl, hp, hL, h0, h1, h2, q⟩ := h
    rfl
  · obtain ⟨p, dx, l, ns, i, j, rfl, hp, hL, h0, h1, h2, q⟩ := h
    have hcl := T.cl
    have hnK := T.nK
    refine ⟨_, (pss_one (ps_if (pt_not (pt_chain3 op_le op_lt op_le pe_int (pv 1) (pv 2) (pe_callB c_len (by rfl) T.b_len PySem.boot_len (pa_cons (pe_fld (pv 0) rfl) pa_nil)))) (pss_one ps_never) pss_nil)), ?_⟩
    walk_at "go"
    refine brT (by omega) ?_
    walk_at "go"
    refine brT (by omega) ?_
    walk_at "go"
    rw [decide_eq_true h2]
    refine iteF ?_
    walk_at "go"
    exact q
theorem ix_nat {n : Nat} {i : Int} (h0 : 0 ≤ i) (h1 : i < (n : Int)) : ixN n i = some i.toNat := by
  unfold ixN
  rw [if_pos h0, if_pos h1]
theorem map_set (ns : List Int) (j : Nat) (z : Int) : (ns.map V.int).set j (.int z) = (ns.set j z).map V.int := by
  rw [List.map_set]
theorem r_setL {o : Addr} {i z : Int} {ns : List Int} {H : Hp} {Q : Hp → Prop} (h : H o = some (.lst (ns.map V.int))) (h0 : 0 ≤ i) (h1 : i < (ns.length : Int)) (q : Q (upd H o (.lst ((ns.set i.toNat z).map V.int)))) : rSetL (.ref o) (.int i) (.int z) H Q := by
  refine ⟨o, ns.map V.int, i, i.toNat, rfl, rfl, h, ?_, ?_⟩
  · rw [List.length_map]
    exact ix_nat h0 h1
  · rw [map_set]
    exact q
theorem sc_Row_set_at : FnScope ["self", "place", "number"] ["self", "place", "number"] (defScope s_Row_set_at) := ⟨rfl, rfl, rfl, by decide +kernel, rfl, by decide +kernel, by decide +kernel⟩
def sp_Row_set_at (_ : PySem.W.Frag) (C : Addr) : Sp := fun vs H Q _ => ∃ (p dx l : Addr) (ns : List Int) (i z : Int), vs = [.ref p, .int i, .int z] ∧ H p = some (.ins C dx (rowF l)) ∧ H l = some (.lst (ns.map V.int)) ∧ 0 ≤ i ∧ i < (ns.length : Int) ∧
  Q .non (upd H l (.lst ((ns.set i.toNat z).map V.int)))
theorem ok_Row_set_at {f : Addr} {fd : FuncData} (F : Fun K "set_at" "Row.set_at" s_Row_set_at f fd) (T : Txt K mg C) (c_Row_ask : C8.Met P w K mg base 1 C "ask" (sp_Row_ask K C) []) : FnOk P w K mg base CX0 2 f fd ["self", "place", "number"] (sp_Row_set_at K C) := by
  refine F.ok sc_Row_set_at (fun vs H Q E h => ?_) (fun cdv A outer s H vs Q E hr h => ?_)
  · obtain ⟨p, dx, l, ns, i, z, rfl, hp, hL, h0, h1, q⟩ := h
    rfl
  · obtain ⟨p, dx, l, ns, i, z, rfl, hp, hL, h0, h1, q⟩ := h
    have hcl := T.cl
    have hnK := T.nK
    refine ⟨_, (pss_cons (ps_expr (C8.pe_mt c_Row_ask hr (by decide) (pv 0) (pa_cons (pv 1) (pa_cons (pe_callB c_len (by rfl) T.b_len PySem.boot_len (pa_cons (pe_fld (pv 0) rfl) pa_nil)) pa_nil))))
      (pss_one (ps_asg (pv 2) (pg_sub (pe_fld (pv 0) rfl) (pv 1) set_list)))), ?_⟩
    walk_at "go"
    refine ⟨_, _, _, rfl, h0, h1, ?_⟩
    walk_at "go"
    exact r_setL hL h0 h1 q
theorem sc_Row_take_out : FnScope ["self", "place"] ["self", "place"] (defScope s_Row_take_out) := ⟨rfl, rfl, rfl, by decide +kernel, rfl, by decide +kernel, by decide +kernel⟩
def sp_Row_take_out (_ : PySem.W.Frag) (C : Addr) : Sp := fun vs H Q _ => ∃ (p dx l : Addr) (ns : List Int) (i z : Int), vs = [.ref p, .int i] ∧ H p = some (.ins C dx (rowF l)) ∧ H l = some (.lst (ns.map V.int)) ∧ ns.length ≤ 100 ∧ 0 ≤ i ∧ ns[i.toNat]? = some z ∧
  Q (.int z) (upd H l (.lst ((ns.eraseIdx i.toNat).map V.int)))
theorem ok_Row_take_out {f : Addr} {fd : FuncData} (F : Fun K "take_out" "Row.take_out" s_Row_take_out f fd) (T : Txt K mg C) (c_Row_ask : C8.Met P w K mg base 1 C "ask" (sp_Row_ask K C) []) : FnOk P w K mg base CX0 2 f fd ["self", "place"] (sp_Row_take_out K C) := by
  refine F.ok sc_Row_take_out (fun vs H Q E h => ?_) (fun cdv A outer s H vs Q E hr h => ?_)
  · obtain ⟨p, dx, l, ns, i, z, rfl, hp, hL, h3, h0, h1, q⟩ := h
    rfl
  · obtain ⟨p, dx, l, ns, i, z, rfl, hp, hL, h3, h0, h1, q⟩ := h
    have hcl := T.cl
    have hnK := T.nK
    refine ⟨_, (pss_cons (ps_expr (C8.pe_mt c_Row_ask hr (by decide) (pv 0) (pa_cons (pv 1) (pa_cons (pe_callB c_len (by rfl) T.b_len PySem.boot_len (pa_cons (pe_fld (pv 0) rfl) pa_nil)) pa_nil))))
      (pss_one (ps_ret (pe_bm PySem.F.plainAttrs_list PySem.F.slot_list_pop PySem.F.type_list_pop mt_popAt (pe_fld (pv 0) rfl) (pa_cons (pv 1) pa_nil))))), ?_⟩
    have hi : i.toNat < ns.length := (List.getElem?_eq_some_iff.mp h1).1
    walk_at "go"
    refine ⟨_, _, _, rfl, h0, (by omega), ?_⟩
    walk_at "go"
    refine r_popAt hL h0 (by omega) h1 ?_
    exact q
theorem sc_Row_put_in : FnScope ["self", "place", "number"] ["self", "place", "number"] (defScope s_Row_put_in) := ⟨rfl, rfl, rfl, by decide +kernel, rfl, by decide +kernel, by decide +kernel⟩
def sp_Row_put_in (_ : PySem.W.Frag) (C : Addr) : Sp := fun vs H Q _ => ∃ (p dx l : Addr) (ns : List Int) (i z : Int), vs = [.ref p, .int i, .int z] ∧ H p = some (.ins C dx (rowF l)) ∧ H l = some (.lst (ns.map V.int)) ∧ ns.length < 40 ∧ 0 ≤ i ∧ i ≤ (ns.length : Int) ∧
  Q .non (upd H l (.lst ((ns.take i.toNat ++ [z] ++ ns.drop i.toNat).map V.int)))
theorem ok_Row_put_in {f : Addr} {fd : FuncData} (F : Fun K "put_in" "Row.put_in" s_Row_put_in f fd) (T : Txt K mg C) (c_Row_ask : C8.Met P w K mg base 1 C "ask" (sp_Row_ask K C) []) : FnOk P w K mg base CX0 2 f fd ["self", "place", "number"] (sp_Row_put_in K C) := by
  refine F.ok sc_Row_put_in (fun vs H Q E h => ?_) (fun cdv A outer s H vs Q E hr h => ?_)
  · obtain ⟨p, dx, l, ns, i, z, rfl, hp, hL, h2, h0, h1, q⟩ := h
    rfl
  · obtain ⟨p, dx, l, ns, i, z, rfl, hp, hL, h2, h0, h1, q⟩ := h
    have hcl := T.cl
    have hnK := T.nK
    refine ⟨_, (pss_cons (ps_if (pt_cmpR op_eq (pe_callB c_len (by rfl) T.b_len PySem.boot_len (pa_cons (pe_fld (pv 0) rfl) pa_nil)) (C8.pe_gc (v := .int 40) (by rfl) T.g_MOST) (nomark _)) (pss_one ps_never) pss_nil)
      (pss_cons (ps_expr (C8.pe_mt c_Row_ask hr (by decide) (pv 0) (pa_cons (pv 1) (pa_cons (pe_op op_add (pe_callB c_len (by rfl) T.b_len PySem.boot_len (pa_cons (pe_fld (pv 0) rfl) pa_nil)) pe_int) pa_nil))))
      (pss_one (ps_expr (pe_bm PySem.F.plainAttrs_list PySem.F.slot_list_insert PySem.F.type_list_insert m_insert (pe_fld (pv 0) rfl) (pa_cons (pv 1) (pa_cons (pv 2) pa_nil))))))), ?_⟩
    walk_at "go"
    try rw [List.length_map]
    refine brF (by omega) ?_
    walk_at "go"
    refine ⟨_, _, _, rfl, h0, (by omega), ?_⟩
    walk_at "go"
    refine r_ins hL (by rw [List.length_map]; omega) h0 (by omega) ?_
    rw [← List.map_take, ← List.map_drop, snoc_int, ← List.map_append]
    exact q
/-- a number added to all of a stretch, the first k of it done -/
def addTo (ns : List Int) (i k : Nat) (z : Int) : List Int := match k with
  | 0 => ns
  | k + 1 => (addTo ns i k z).set (i + k) ((addTo ns i k z).getD (i + k) 0 + z)
theorem addTo_len (ns : List Int) (i k : Nat) (z : Int) : (addTo ns i k z).length = ns.length := by
  induction k with
  | zero => rfl
  | succ k ih =>
    show (List.set _ _ _).length = _
    rw [List.length_set, ih]
theorem getD_at {ns : List Int} {k : Nat} (h : k < ns.length) : ns[k]? = some (ns.getD k 0) := by
  rw [List.getD_eq_getElem?_getD, List.getElem?_eq_getElem h]
  rfl
theorem sc_Row_add_to : FnScope ["self", "first", "behind", "number", "place"] ["self", "first", "behind", "number"] (defScope s_Row_add_to) := ⟨rfl, rfl, rfl, by decide +kernel, rfl, by decide +kernel, by decide +kernel⟩
def sp_Row_add_to (_ : PySem.W.Frag) (C : Addr) : Sp := fun vs H Q _ => ∃ (p dx l : Addr) (ns : List Int) (i j z : Int), vs = [.ref p, .int i, .int j, .int z] ∧ H p = some (.ins C dx (rowF l)) ∧ H l = some (.lst (ns.map V.int)) ∧ ns.length ≤ 100 ∧ p ≠ l ∧ 0 ≤ i ∧ i < j ∧ j ≤ (ns.length : Int) ∧
  ∀ H', But l H H' → H' l = some (.lst ((addTo ns i.toNat (j - i).toNat z).map V.int)) → Q .non H'
theorem ok_Row_add_to {f : Addr} {fd : FuncData} (F : Fun K "add_to" "Row.add_to" s_Row_add_to f fd) (T : Txt K mg C) (c_Row_ask_stretch : C8.Met P w K mg base 1 C "ask_stretch" (sp_Row_ask_stretch K C) []) : FnOk P w K mg base CX0 2 f fd ["self", "first", "behind", "number"] (sp_Row_add_to K C) := by
  refine F.ok sc_Row_add_to (fun vs H Q E h => ?_) (fun cdv A outer s H vs Q E hr h => ?_)
  · obtain ⟨p, dx, l, ns, i, j, z, rfl, hp, hL, h3, npl, h0, h1, h2, q⟩ := h
    rfl
  · obtain ⟨p, dx, l, ns, i, j, z, rfl, hp, hL, h3, npl, h0, h1, h2, q⟩ := h
    have hcl := T.cl
    have hnK := T.nK
    refine ⟨_, (pss_cons (ps_expr (C8.pe_mt c_Row_ask_stretch hr (by decide) (pv 0) (pa_cons (pv 1) (pa_cons (pv 2) pa_nil))))
      (pss_one (ps_for PassesOwn.never rfl (pi_range2 (by rfl) T.b_range (pa_cons (pv 1) (pa_cons (pv 2) pa_nil))) (pg_name (i := 4) sc_Row_add_to.nd rfl (by first | exact Or.inl rfl | exact Or.inr rfl)) (pss_one (ps_asg (pe_op op_add (pe_ix ix_list (pe_fld (pv 0) rfl) (pv 4) (fun _ _ => rfl)) (pv 3)) (pg_sub (pe_fld (pv 0) rfl) (pv 4) set_list)))))), ?_⟩
    walk_at "go"
    refine ⟨p, dx, l, ns, i, j, rfl, hp, hL, h0, h1, h2, ?_⟩
    walk_at "go"
    refine r_loopR (fun k σ H' => ∃ v, σ = [some (.ref p), some (.int i), some (.int j), some (.int z), v] ∧ But l H H' ∧ H' l = some (.lst ((addTo ns i.toNat k z).map V.int))) ?_ ?_ ?_
    · exact ⟨_, rfl, But.of (Same.refl _), hL⟩
    · rintro k σ H' hk ⟨v, rfl, b1, hL'⟩
      have hp' : H' p = some (.ins C dx (rowF l)) := b1 _ _ hp npl
      have hlen := addTo_len ns i.toNat k z
      have ek : (i + (k : Int)).toNat = i.toNat + k := by omega
      have hx : ((addTo ns i.toNat k z).map V.int)[(i + (k : Int)).toNat]? = some (.int ((addTo ns i.toNat k z).getD (i.toNat + k) 0)) := by
        rw [List.getElem?_map, ek, getD_at (by omega)] <;> rfl
      walk_at "go"
      refine r_ixL (VT.SqL.lst hL') (r_at (by omega) hx) ?_
      walk_at "go"
      refine r_setL hL' (by omega) (by omega) ?_
      refine ⟨_, rfl, b1.up, ?_⟩
      rw [upd_same, ek] <;> rfl
    · rintro σ H' ⟨v, rfl, b1, hL'⟩
      exact q H' b1 hL'
theorem cell_at {ns : List Int} {k : Int} (h0 : 0 ≤ k) (h : k < (ns.length : Int)) : atI (ns.map V.int) k = some (.int (ns.getD k.toNat 0)) := by
  have hk : k.toNat < ns.length := by omega
  refine r_at (j := k.toNat) (by omega) ?_
  rw [List.getElem?_map, List.getD_eq_getElem?_getD, List.getElem?_eq_getElem hk]
  rfl
theorem cell_no {ns : List Int} {k : Int} (h : ¬ k < (ns.length : Int)) : ns.getD k.toNat 0 = 0 := by
  rw [List.getD_eq_getElem?_getD, List.getElem?_eq_none (by omega)]
  rfl
theorem sc__law_cell_at : FnScope ["script", "k"] ["script", "k"] (defScope s__law_cell_at) := ⟨rfl, rfl, rfl, by decide +kernel, rfl, by decide +kernel, by decide +kernel⟩
def sp__law_cell_at (K : PySem.W.Frag) (_ : Addr) : Sp := fun vs H Q _ => ∃ (a : Addr) (ns : List Int) (k : Int), vs = [.ref a, .int k] ∧ SqL K H a (ns.map V.int) ∧ 0 ≤ k ∧ Q (.int (ns.getD k.toNat 0)) H
theorem ok__law_cell_at {f : Addr} {fd : FuncData} (F : Fun K "_law_cell_at" "_law_cell_at" s__law_cell_at f fd) (T : Txt K mg C)  : FnOk P w K mg base CX0 1 f fd ["script", "k"] (sp__law_cell_at K C) := by
  refine F.ok sc__law_cell_at (fun vs H Q E h => ?_) (fun cdv A outer s H vs Q E hr h => ?_)
  · obtain ⟨a, ns, k, rfl, hS, h0, q⟩ := h
    rfl
  · obtain ⟨a, ns, k, rfl, hS, h0, q⟩ := h
    have hcl := T.cl
    have hnK := T.nK
    refine ⟨_, (pss_cons (ps_if (pt_cmpR op_lt (pv 1) (pe_callB c_len (by rfl) T.b_len PySem.boot_len (pa_cons (pv 0) pa_nil)) (nomark _)) (pss_one (ps_ret (pe_ix ix_list (pv 0) (pv 1) (fun _ _ => rfl)))) pss_nil)
      (pss_one (ps_ret pe_int))), ?_⟩
    walk_at "go"
    try rw [List.length_map]
    refine brD (fun c => ?_) (fun c => ?_)
    · have c2 := cell_at h0 c
      walk_at "go"
      exact q
    · rw [cell_no c] at q
      walk_at "go"
      exact q
theorem sc__law_whole : FnScope ["found"] ["found"] (defScope s__law_whole) := ⟨rfl, rfl, rfl, by decide +kernel, rfl, by decide +kernel, by decide +kernel⟩
def sp__law_whole (_ : PySem.W.Frag) (_ : Addr) : Sp := fun vs H Q _ => ∃ (i : Int), vs = [.int i] ∧ Q (.bl true) H
theorem ok__law_whole {f : Addr} {fd : FuncData} (F : Fun K "_law_whole" "_law_whole" s__law_whole f fd) (T : Txt K mg C)  : FnOk P w K mg base CX0 1 f fd ["found"] (sp__law_whole K C) := by
  refine F.ok sc__law_whole (fun vs H Q E h => ?_) (fun cdv A outer s H vs Q E hr h => ?_)
  · obtain ⟨i, rfl, q⟩ := h
    rfl
  · obtain ⟨i, rfl, q⟩ := h
    have hcl := T.cl
    have hnK := T.nK
    refine ⟨_, (pss_one (ps_ret (pe_and (pe_callB call_isi (by rfl) T.b_isinstance (by decide +kernel) (pa_cons (pv 0) (pa_cons (pe_bltn (v := .ty "int") (by rfl) T.b_int (by decide +kernel) rfl) pa_nil))) (pe_one (pe_not (pe_callB call_isi (by rfl) T.b_isinstance (by decide +kernel) (pa_cons (pv 0) (pa_cons (pe_bltn (v := .ty "bool") (by rfl) T.b_bool (by decide +kernel) rfl) pa_nil)))))))), ?_⟩
    walk_at "go"
    refine r_isiT (.base (.int i)) (by decide +kernel) ?_
    walk_at "go"
    refine iteT ?_
    walk_at "go"
    refine r_isiF (.base (.int i)) (by decide +kernel) ?_
    walk_at "go"
    exact q
theorem sc__law_draw : FnScope ["cell", "k", "bound", "one", "two"] ["cell", "k", "bound"] (defScope s__law_draw) := ⟨rfl, rfl, rfl, by decide +kernel, rfl, by decide +kernel, by decide +kernel⟩
def sp__law_draw (_ : PySem.W.Frag) (_ : Addr) : Sp := fun vs H Q _ => ∃ (c k b : Int), vs = [.int c, .int k, .int b] ∧ 0 ≤ k ∧ k ≤ 1000 ∧ 0 < b ∧ b ≤ 10000000 ∧ ∀ r : Int, 0 ≤ r → r < b → Q (.int r) H
theorem ok__law_draw {f : Addr} {fd : FuncData} (F : Fun K "_law_draw" "_law_draw" s__law_draw f fd) (T : Txt K mg C)  : FnOk P w K mg base CX0 1 f fd ["cell", "k", "bound"] (sp__law_draw K C) := by
  refine F.ok sc__law_draw (fun vs H Q E h => ?_) (fun cdv A outer s H vs Q E hr h => ?_)
  · obtain ⟨c, k, b, rfl, h0, h1, h2, h3, q⟩ := h
    rfl
  · obtain ⟨c, k, b, rfl, h0, h1, h2, h3, q⟩ := h
    have hcl := T.cl
    have hnK := T.nK
    refine ⟨_, (pss_cons (ps_set (i := 3) sc__law_draw.nd rfl (by first | exact Or.inl rfl | exact Or.inr rfl) (pe_op op_mod (pe_op op_add (pe_op op_add (pe_op op_mul (pe_op op_mod (pv 0) pe_int) pe_int) (pe_op op_mul (pv 1) pe_int)) pe_int) pe_int))
      (pss_cons (ps_set (i := 4) sc__law_draw.nd rfl (by first | exact Or.inl rfl | exact Or.inr rfl) (pe_op op_mod (pe_op op_mul (pe_op op_add (pe_op op_mod (pv 0) pe_int) pe_int) (pe_op op_add (pe_op op_add (pe_op op_mul (pv 1) (pv 1)) (pe_op op_mul pe_int (pv 1))) pe_int)) pe_int))
      (pss_one (ps_ret (pe_op op_mod (pe_op op_fdiv (pe_op op_mul (pv 3) (pe_op op_add (pv 4) pe_int)) pe_int) (pv 2)))))), ?_⟩
    have ek : (-1000 ≤ k * k ∧ k * k ≤ 1000000) := ⟨Int.le_trans (by decide) (Int.mul_nonneg h0 h0), Int.le_trans (Int.mul_le_mul h1 h1 h0 (by decide)) (by decide)⟩
    walk_at "go"
    have e1 := Int.emod_nonneg c (show (1000003 : Int) ≠ 0 by decide)
    have e2 := Int.emod_lt_of_pos c (show (0 : Int) < 1000003 by decide)
    walk_at "go"
    exact q _ (Int.emod_nonneg _ (by omega)) (Int.emod_lt_of_pos _ (by omega))
/-- numbers that a row of the law's may have -/
def Mid (ns : List Int) : Prop := ∀ x ∈ ns, x.natAbs < 2 ^ 200
theorem Mid.nil : Mid [] := fun _ h => by cases h
theorem Mid.snoc {ns : List Int} {x : Int} (h : Mid ns) (hx : x.natAbs < 2 ^ 200) : Mid (ns ++ [x]) := fun y hy => by
  rcases List.mem_append.mp hy with e | e
  · exact h y e
  · rw [List.mem_singleton.mp e]
    exact hx
theorem sc__law_row : FnScope ["script", "at", "most", "size", "kind", "found", "k", "cell"] ["script", "at", "most"] (defScope s__law_row) := ⟨rfl, rfl, rfl, by decide +kernel, rfl, by decide +kernel, by decide +kernel⟩
def sp__law_row (K : PySem.W.Frag) (_ : Addr) : Sp := fun vs H Q _ => ∃ (a : Addr) (ns : List Int) (at' m : Int), vs = [.ref a, .int at', .int m] ∧ SqL K H a (ns.map V.int) ∧ 0 ≤ at' ∧ at' ≤ 100 ∧ 0 ≤ m ∧ m ≤ 60 ∧
  ∀ (p : Addr) (ms : List Int) (H' : Hp), H p = none → Same H H' → H' p = some (.lst (ms.map V.int)) → (ms.length : Int) ≤ m → Mid ms → Q (.ref p) H'
theorem ok__law_row {f : Addr} {fd : FuncData} (F : Fun K "_law_row" "_law_row" s__law_row f fd) (T : Txt K mg C) (c__law_draw : C8.Cal P w K mg base 1 "_law_draw" (sp__law_draw K C) []) (c__law_cell_at : C8.Cal P w K mg base 1 "_law_cell_at" (sp__law_cell_at K C) []) : FnOk P w K mg base CX0 2 f fd ["script", "at", "most"] (sp__law_row K C) := by
  refine F.ok sc__law_row (fun vs H Q E h => ?_) (fun cdv A outer s H vs Q E hr h => ?_)
  · obtain ⟨a, ns, at', m, rfl, hS, h0, h1, h2, h3, q⟩ := h
    rfl
  · obtain ⟨a, ns, at', m, rfl, hS, h0, h1, h2, h3, q⟩ := h
    have hcl := T.cl
    have hnK := T.nK
    refine ⟨_, (pss_cons (ps_set (i := 3) sc__law_row.nd rfl (by first | exact Or.inl rfl | exact Or.inr rfl) (pe_op op_mod (C8.pe_c c__law_cell_at hr (by decide) rfl (pa_cons (pv 0) (pa_cons (pv 1) pa_nil))) (pe_op op_add (pv 2) pe_int)))
      (pss_cons (ps_set (i := 4) sc__law_row.nd rfl (by first | exact Or.inl rfl | exact Or.inr rfl) (pe_op op_mod (pe_op op_fdiv (C8.pe_c c__law_cell_at hr (by decide) rfl (pa_cons (pv 0) (pa_cons (pv 1) pa_nil))) (pe_op op_add (pv 2) pe_int)) pe_int))
      (pss_cons (ps_set (i := 5) sc__law_row.nd rfl (by first | exact Or.inl rfl | exact Or.inr rfl) (pe_lst pa_nil))
      (pss_cons (ps_for PassesOwn.never rfl (pi_range1 (by rfl) T.b_range (pa_cons (pv 3) pa_nil)) (pg_name (i := 6) sc__law_row.nd rfl (by first | exact Or.inl rfl | exact Or.inr rfl)) (pss_cons (ps_set (i := 7) sc__law_row.nd rfl (by first | exact Or.inl rfl | exact Or.inr rfl) (C8.pe_c c__law_cell_at hr (by decide) rfl (pa_cons (pv 0) (pa_cons (pe_op op_add (pe_op op_add (pv 1) pe_int) (pv 6)) pa_nil))))
      (C8.pss_cut (ps_if (pt_cmpR op_ge (pe_op op_add (pe_op op_add (pv 1) pe_int) (pv 6)) (pe_callB c_len (by rfl) T.b_len PySem.boot_len (pa_cons (pv 0) pa_nil)) (nomark _)) (pss_one (ps_set (i := 7) sc__law_row.nd rfl (by first | exact Or.inl rfl | exact Or.inr rfl) (C8.pe_c c__law_draw hr (by decide) rfl (pa_cons (C8.pe_c c__law_cell_at hr (by decide) rfl (pa_cons (pv 0) (pa_cons (pv 1) pa_nil))) (pa_cons (pv 6) (pa_cons pe_int pa_nil)))))) pss_nil)
      (pss_one (ps_expr (pe_bm PySem.F.plainAttrs_list PySem.F.slot_list_append PySem.F.type_list_append mt_append (pv 5) (pa_cons (pe_ix ix_list (pe_lst (pa_cons (pe_op op_mod (pv 7) pe_int) (pa_cons (pe_op op_sub (pe_op op_mod (pv 7) pe_int) pe_int) (pa_cons (pe_op op_sub (pe_op op_mod (pv 7) (pe_op op_pow pe_int pe_int)) (pe_op op_pow pe_int pe_int)) (pa_cons (pe_op op_add (pv 6) (pe_op op_mod (pv 7) pe_int)) pa_nil))))) (pv 4) (fun _ _ => rfl)) pa_nil)))))))
      (pss_one (ps_ret (pv 5))))))), ?_⟩
    walk_at "go"
    refine ⟨a, ns, at', rfl, hS, h0, ?_⟩
    generalize ns.getD at'.toNat 0 = c0
    walk_at "go"
    refine ⟨a, ns, at', rfl, hS, h0, ?_⟩
    generalize ns.getD at'.toNat 0 = c1
    walk_at "go"
    intro p np
    walk_at "go"
    have z0 := Int.emod_nonneg c0 (show m + 1 ≠ 0 by omega)
    have z1 := Int.emod_lt_of_pos c0 (show (0 : Int) < m + 1 by omega)
    generalize c0 % (m + 1) = size at z0 z1
    have k0 := Int.emod_nonneg (c1 / (m + 1)) (show (4 : Int) ≠ 0 by decide)
    have k1 := Int.emod_lt_of_pos (c1 / (m + 1)) (show (0 : Int) < 4 by decide)
    generalize c1 / (m + 1) % 4 = kind at k0 k1
    walk_at "go"
    refine r_loopR (fun i σ H' => ∃ ms : List Int, ∃ v w, σ = [some (.ref a), some (.int at'), some (.int m), some (.int size), some (.int kind), some (.ref p), v, w] ∧ Same H H' ∧ H' p = some (.lst (ms.map V.int)) ∧ ms.length = i ∧ Mid ms) ?_ ?_ ?_
    · exact ⟨[], _, _, rfl, same_new np _, upd_same, rfl, Mid.nil⟩
    · rintro i σ H' hi ⟨ms, v, w, rfl, s1, hp, hl, hm⟩
      have fin : ∀ (c k x : Int), 0 ≤ k → k ≤ 60 → (x = c % 4 ∨ x = c % 21 - 10 ∨ x = c % 10 ^ 50 - 10 ^ 49 ∨ x = k + c % 3) → x.natAbs < 2 ^ 200 := fun c k x k0 k1 hx => by
        have e1 := Int.emod_nonneg c (show (4 : Int) ≠ 0 by decide)
        have e2 := Int.emod_lt_of_pos c (show (0 : Int) < 4 by decide)
        have e3 := Int.emod_nonneg c (show (21 : Int) ≠ 0 by decide)
        have e4 := Int.emod_lt_of_pos c (show (0 : Int) < 21 by decide)
        have e5 := Int.emod_nonneg c (show (10 ^ 50 : Int) ≠ 0 by decide)
        have e6 := Int.emod_lt_of_pos c (show (0 : Int) < 10 ^ 50 by decide)
        have e7 := Int.emod_nonneg c (show (3 : Int) ≠ 0 by decide)
        have e8 := Int.emod_lt_of_pos c (show (0 : Int) < 3 by decide)
        omega
      walk_at "go"
      refine ⟨a, ns, _, rfl, s1.seq hS, by omega, ?_⟩
      generalize ns.getD (at' + 1 + (0 + (i : Int))).toNat 0 = c2
      walk_at "go"
      refine r_cut (fun σ' H4 => H4 = H' ∧ ∃ c : Int, σ' = [some (V.ref a), some (.int at'), some (.int m), some (.int size), some (.int kind), some (.ref p), some (.int (0 + (i : Int))), some (.int c)]) ?_ ?_
      · walk_at "go"
        try rw [List.length_map]
        refine brD (fun c => ?_) (fun c => ?_)
        · walk_at "go"
          refine ⟨a, ns, _, rfl, s1.seq hS, by omega, ?_⟩
          walk_at "go"
          refine ⟨_, _, _, rfl, by omega, by omega, by omega, by omega, fun r r0 r1 => ?_⟩
          walk_at "go"
          exact ⟨rfl, _, rfl⟩
        · walk_at "go"
          exact ⟨rfl, _, rfl⟩
      · rintro σ' H4 ⟨rfl, c, rfl⟩
        walk_at "go"
        intro t nt
        walk_at "go"
        have s2 : Same H4 (upd H4 t (.lst [V.int (c % 4), V.int (c % 21 - 10), V.int (c % 10 ^ 50 - 10 ^ 49), V.int (0 + (i : Int) + c % 3)])) := same_new nt _
        have kk : kind = ((0 : Nat) : Int) ∨ kind = ((1 : Nat) : Int) ∨ kind = ((2 : Nat) : Int) ∨ kind = ((3 : Nat) : Int) := by omega
        rcases kk with e | e | e | e
        · refine r_ixL (VT.SqL.lst upd_same) (r_at e rfl) ?_
          walk_at "go"
          exact ⟨ms ++ [_], _, _, rfl, same_mut (s1.trans s2) np, by rw [upd_same, snoc_int] <;> rfl, by rw [List.length_append, hl] <;> rfl, hm.snoc (fin c (0 + (i : Int)) _ (by omega) (by omega) (.inl rfl))⟩
        · refine r_ixL (VT.SqL.lst upd_same) (r_at e rfl) ?_
          walk_at "go"
          exact ⟨ms ++ [_], _, _, rfl, same_mut (s1.trans s2) np, by rw [upd_same, snoc_int] <;> rfl, by rw [List.length_append, hl] <;> rfl, hm.snoc (fin c (0 + (i : Int)) _ (by omega) (by omega) (.inr (.inl rfl)))⟩
        · refine r_ixL (VT.SqL.lst upd_same) (r_at e rfl) ?_
          walk_at "go"
          exact ⟨ms ++ [_], _, _, rfl, same_mut (s1.trans s2) np, by rw [upd_same, snoc_int] <;> rfl, by rw [List.length_append, hl] <;> rfl, hm.snoc (fin c (0 + (i : Int)) _ (by omega) (by omega) (.inr (.inr (.inl rfl))))⟩
        · refine r_ixL (VT.SqL.lst upd_same) (r_at e rfl) ?_
          walk_at "go"
          exact ⟨ms ++ [_], _, _, rfl, same_mut (s1.trans s2) np, by rw [upd_same, snoc_int] <;> rfl, by rw [List.length_append, hl] <;> rfl, hm.snoc (fin c (0 + (i : Int)) _ (by omega) (by omega) (.inr (.inr (.inr rfl))))⟩
    · rintro σ H' ⟨ms, v, w, rfl, s1, hp, hl, hm⟩
      walk_at "go"
      exact q p ms H' np s1 hp (by omega) hm
theorem sc__law_right : FnScope ["row", "kept", "blocks", "first", "behind", "area", "due", "turn", "found", "one"] ["row", "kept"] (defScope s__law_right) := ⟨rfl, rfl, rfl, by decide +kernel, rfl, by decide +kernel, by decide +kernel⟩
def sp__law_right (_ : PySem.W.Frag) (C : Addr) : Sp := fun vs H Q _ => ∃ (p dx l k : Addr) (ns : List Int), vs = [.ref p, .ref k] ∧ H p = some (.ins C dx (rowF l)) ∧ H l = some (.lst (ns.map V.int)) ∧ H k = some (.lst (ns.map V.int)) ∧ ns.length ≤ 40 ∧ 0 < ns.length ∧ (∀ x ∈ ns, 0 ≤ x) ∧ ∀ H', Same H H' → Q (.bl true) H'
theorem ok__law_right {f : Addr} {fd : FuncData} (F : Fun K "_law_right" "_law_right" s__law_right f fd) (T : Txt K mg C) (c_Row_numbers : C8.Met P w K mg base 1 C "numbers" (sp_Row_numbers K C) []) (c__law_whole : C8.Cal P w K mg base 1 "_law_whole" (sp__law_whole K C) []) (c_widest : C8.Cal P w K mg base 2 "widest" (sp_widest K C) []) : FnOk P w K mg base CX0 3 f fd ["row", "kept"] (sp__law_right K C) := by
  refine F.ok sc__law_right (fun vs H Q E h => ?_) (fun cdv A outer s H vs Q E hr h => ?_)
  · obtain ⟨p, dx, l, kp, ns, rfl, hp, hL, hk, hn, hn0, hnn, q⟩ := h
    rfl
  · obtain ⟨p, dx, l, kp, ns, rfl, hp, hL, hk, hn, hn0, hnn, q⟩ := h
    have hcl := T.cl
    have hnK := T.nK
    refine ⟨_, (pss_cons (ps_set (i := 2) sc__law_right.nd rfl (by first | exact Or.inl rfl | exact Or.inr rfl) (pe_lst pa_nil))
      (pss_cons (ps_for PassesOwn.never rfl (pi_range1 (by rfl) T.b_range (pa_cons (pe_callB c_len (by rfl) T.b_len PySem.boot_len (pa_cons (pv 1) pa_nil)) pa_nil)) (pg_name (i := 3) sc__law_right.nd rfl (by first | exact Or.inl rfl | exact Or.inr rfl)) (pss_one (ps_for PassesOwn.never rfl (pi_range2 (by rfl) T.b_range (pa_cons (pe_op op_add (pv 3) pe_int) (pa_cons (pe_op op_add (pe_callB c_len (by rfl) T.b_len PySem.boot_len (pa_cons (pv 1) pa_nil)) pe_int) pa_nil))) (pg_name (i := 4) sc__law_right.nd rfl (by first | exact Or.inl rfl | exact Or.inr rfl)) (pss_cons (ps_set (i := 5) sc__law_right.nd rfl (by first | exact Or.inl rfl | exact Or.inr rfl) (pe_op op_mul (pe_callB (cr_min rfl) (by rfl) T.b_min (by decide +kernel) (pa_cons (pe_slice sl_list (pv 1) (po_some (pv 3)) (po_some (pv 4))) pa_nil)) (pe_op op_sub (pv 4) (pv 3))))
      (pss_one (ps_expr (pe_bm PySem.F.plainAttrs_list PySem.F.slot_list_append PySem.F.type_list_append mt_append (pv 2) (pa_cons (pe_tup (pa_cons (pe_un un_neg (pv 5)) (pa_cons (pv 3) (pa_cons (pv 4) pa_nil)))) pa_nil))))))))
      (pss_cons (ps_set (i := 6) sc__law_right.nd rfl (by first | exact Or.inl rfl | exact Or.inr rfl) (pe_callB (cr_minT rfl hr.units) (by rfl) T.b_min (by decide +kernel) (pa_cons (pv 2) pa_nil)))
      (pss_cons (ps_for PassesOwn.never rfl (pi_range1 (by rfl) T.b_range (pa_cons pe_int pa_nil)) (pg_name (i := 7) sc__law_right.nd rfl (by first | exact Or.inl rfl | exact Or.inr rfl)) (pss_cons (ps_set (i := 8) sc__law_right.nd rfl (by first | exact Or.inl rfl | exact Or.inr rfl) (C8.pe_c c_widest hr (by decide) rfl (pa_cons (pv 0) pa_nil)))
      (pss_cons (ps_if (PW.pt (pw_or (pt_not (pt_val (pe_callB call_isi (by rfl) T.b_isinstance (by decide +kernel) (pa_cons (pv 8) (pa_cons (pe_bltn (v := .ty "tuple") (by rfl) T.b_tuple (by decide +kernel) rfl) pa_nil))))) (pw_or (pt_cmpR op_ne (pe_callB c_len (by rfl) T.b_len PySem.boot_len (pa_cons (pv 8) pa_nil)) pe_int (nomark _)) (pw_or1 (pt_cmpR (op_neD hr.units) (pv 8) (pe_tup (pa_cons (pe_un un_neg (pe_ix ix_tup (pv 6) pe_int (fun _ _ => rfl))) (pa_cons (pe_ix ix_tup (pv 6) pe_int (fun _ _ => rfl)) (pa_cons (pe_ix ix_tup (pv 6) pe_int (fun _ _ => rfl)) pa_nil)))) (nomark _)))))) (pss_one (ps_ret pe_bl)) pss_nil)
      (pss_one (ps_for PassesOwn.never rfl (pi_tup (pv 8)) (pg_name (i := 9) sc__law_right.nd rfl (by first | exact Or.inl rfl | exact Or.inr rfl)) (pss_one (ps_if (pt_not (pt_val (C8.pe_c c__law_whole hr (by decide) rfl (pa_cons (pv 9) pa_nil)))) (pss_one (ps_ret pe_bl)) pss_nil)))))))
      (pss_one (ps_ret (pe_cmpR (op_eqD hr.units) (C8.pe_mt0 c_Row_numbers hr (by decide) (pv 0)) (pv 1) (nomark _)))))))), ?_⟩
    walk_at "go"
    intro f nf
    have sB := same_new nf (.lst [])
    have hF := @upd_same H f (.lst [])
    generalize upd H f (.lst []) = H0 at sB hF
    walk_at "go"
    refine r_loop0 (fun i σ H' => ∃ v1 v2 v3, ∃ vs : List V, σ = [some (.ref p), some (.ref kp), some (.ref f), v1, v2, v3, none, none, none, none] ∧ Same H H' ∧ H' f = some (.lst vs) ∧ TupsP H' vs (blks ns i)) ⟨_, _, _, [], rfl, sB, hF, .nil⟩ ?_ ?_
    · rintro i σ H1 hi ⟨v1, v2, v3, vs, rfl, s1, hF, hT⟩
      have hi' : i < ns.length := by omega
      have hls := blks_len hn (Nat.le_of_lt hi')
      have hk1 := s1 _ _ hk
      walk_at "go"
      refine r_loopR (fun d σ H' => ∃ v2 v3, ∃ vs : List V, σ = [some (.ref p), some (.ref kp), some (.ref f), some (.int (i : Int)), v2, v3, none, none, none, none] ∧ Same H H' ∧ H' f = some (.lst vs) ∧ TupsP H' vs (blks ns i ++ blksRow ns i d)) ?_ ?_ ?_
      · refine ⟨_, _, vs, rfl, s1, hF, ?_⟩
        show TupsP H1 vs (blks ns i ++ [])
        rw [List.append_nil]
        exact hT
      · rintro d σ H2 hd ⟨v2, v3, vs, rfl, s2, hF2, hT2⟩
        have hd' : i + d < ns.length := by omega
        have hvl := hT2.len
        rw [List.length_append, blksRow_len] at hvl
        walk_at "go"
        refine r_slL (VT.SqL.lst (s2 _ _ hk)) fun sl nsl => ?_
        rw [cut_midI (by omega) (by omega) (by omega) (by omega), show ((i : Int)).toNat = i by omega, show ((i : Int) + 1 + (d : Int)).toNat - i = d + 1 by omega]
        have sC := same_new nsl (.lst (((ns.drop i).take (d + 1)).map V.int))
        walk_at "go"
        refine r_min (VT.SqL.lst upd_same) (by rw [List.length_take, List.length_drop]; omega) fun m hm hle => ?_
        have em := minTo_slice hd' hm hle
        subst em
        have hF3 := sC _ _ hF2
        have hT3 := hT2.mono sC
        have s3 := s2.trans sC
        generalize upd H2 sl (.lst (((ns.drop i).take (d + 1)).map V.int)) = H3 at hF3 hT3 s3
        walk_at "go"
        have ear : minTo ns i d * ((i : Int) + 1 + (d : Int) - (i : Int)) = areaOf ns i d := by
          unfold areaOf
          congr 1
          omega
        rw [ear]
        intro t nt
        have sD := same_new nt (.tup [V.int (-areaOf ns i d), V.int (i : Int), V.int ((i : Int) + 1 + (d : Int))])
        have hT4 := (hT3.mono sD).snoc (t := t) (z := blk ns i d) upd_same
        have hF4 := sD _ _ hF3
        have s4 := s3.trans sD
        generalize upd H3 t (.tup [V.int (-areaOf ns i d), V.int (i : Int), V.int ((i : Int) + 1 + (d : Int))]) = H4 at hF4 hT4 s4
        walk_at "go"
        refine r_app hF4 (by omega) ?_
        rw [List.append_assoc, ← blksRow_more] at hT4
        exact ⟨_, _, _, rfl, same_mut s4 nf, upd_same, hT4.up hF4⟩
      · rintro σ H2 ⟨v2, v3, vs, rfl, s2, hF2, hT2⟩
        refine ⟨_, _, _, vs, rfl, s2, hF2, ?_⟩
        rw [show ((ns.length : Int) + 1 - ((i : Int) + 1)).toNat = ns.length - i by omega] at hT2
        exact hT2
    · rintro σ H1 ⟨v1, v2, v3, vs, rfl, s1, hF, hT⟩
      rw [show (ns.length : Int).toNat = ns.length by omega] at hT
      walk_at "go"
      refine r_minT (VT.SqL.lst hF) hT (fun z => ?_) fun t z hz hS hle => ?_
      · have h0 : blk ns 0 0 ∈ blks ns ns.length := (mem_blks _ _ (Nat.le_refl _)).mpr ⟨0, 0, hn0, hn0, rfl⟩
        rw [z] at h0
        cases h0
      obtain ⟨i, d, rfl, hW⟩ := least_blk hz hle
      unfold blk at hS
      walk_at "go"
      refine r_loop0 (fun j σ H' => ∃ v1 v2 v3 v7 v8 v9, σ = [some (.ref p), some (.ref kp), some (.ref f), v1, v2, v3, some (.ref t), v7, v8, v9] ∧ Same H1 H') ⟨_, _, _, _, _, _, rfl, Same.refl _⟩ ?_ ?_
      · rintro j σ H2 hj ⟨v1, v2, v3, v7, v8, v9, rfl, s2⟩
        walk_at "go"
        refine ⟨p, dx, l, ns, rfl, s2 _ _ (s1 _ _ hp), s2 _ _ (s1 _ _ hL), hn, hn0, hnn, fun u H3 i' d' s3 fu hU hW' => ?_⟩
        obtain ⟨rfl, rfl⟩ := hW'.uniq hW
        have hS3 := same_seqT (s2.trans s3) hS
        walk_at "go"
        walk_at "andor"
        walk_at "go"
        refine r_isiT (.base (.tup hU)) (by decide +kernel) ?_
        walk_at "go"
        refine iteF ?_
        walk_at "andor"
        walk_at "go"
        refine brNF (by rfl) ?_
        walk_at "go"
        rw [Int.neg_neg]
        intro y ny
        have sY := same_new ny (.tup [V.int (areaOf ns i' d'), V.int (i' : Int), V.int ((i' : Int) + 1 + (d' : Int))])
        refine r_neT (SqT.tup (sY _ _ hU)) (SqT.tup upd_same) rfl rfl ?_
        walk_at "go"
        refine brNF rfl ?_
        have hU4 := sY _ _ hU
        have s4 := (s2.trans s3).trans sY
        generalize upd H3 y (.tup [V.int (areaOf ns i' d'), V.int (i' : Int), V.int ((i' : Int) + 1 + (d' : Int))]) = H4 at hU4 s4
        walk_at "go"
        refine r_loopT (xs := [V.int (areaOf ns i' d'), V.int (i' : Int), V.int ((i' : Int) + 1 + (d' : Int))]) (fun n σ H' => ∃ v9, σ = [some (.ref p), some (.ref kp), some (.ref f), v1, v2, v3, some (.ref t), some (.int (j : Int)), some (.ref u), v9] ∧ H' = H4) ⟨_, rfl, rfl⟩ (fun n σ H' _ e => ?_) ?_ ?_
        · obtain ⟨v9, _, rfl⟩ := e
          exact SqT.tup hU4
        · rintro n x σ H' hx ⟨v9, rfl, rfl⟩
          have hxi : ∃ z, x = .int z := by
            match n, hx with
            | 0, hx => exact ⟨_, (Option.some.inj hx).symm⟩
            | 1, hx => exact ⟨_, (Option.some.inj hx).symm⟩
            | 2, hx => exact ⟨_, (Option.some.inj hx).symm⟩
            | n + 3, hx => simp at hx
          obtain ⟨z, rfl⟩ := hxi
          walk_at "go"
          refine ⟨_, rfl, ?_⟩
          walk_at "go"
          refine iteF ?_
          walk_at "go"
          exact ⟨_, rfl, rfl⟩
        · rintro σ H' ⟨v9, rfl, rfl⟩
          exact ⟨_, _, _, _, _, _, rfl, s4⟩
      · rintro σ H2 ⟨v1, v2, v3, v7, v8, v9, rfl, s2⟩
        have s12 := s1.trans s2
        walk_at "go"
        refine ⟨p, dx, l, ns, rfl, s12 _ _ hp, s12 _ _ hL, fun x nx => ?_⟩
        have sC := same_new nx (.lst (ns.map V.int))
        walk_at "go"
        refine r_eqL (VT.SqL.lst upd_same) (VT.SqL.lst (sC _ _ (s12 _ _ hk))) (all_int _) (all_int _) ?_
        rw [decide_eq_true rfl]
        exact q _ (s12.trans sC)
/-- what one deed makes of the numbers, as far as it matters: some numbers, none below nought where none was -/
structure Deed (ns ms : List Int) (low : Int) : Prop where
  len : ms.length ≤ 40
  ne : 0 < ms.length
  nn : 0 ≤ low → (∀ x ∈ ns, 0 ≤ x) → ∀ x ∈ ms, 0 ≤ x
theorem deed_set {ns : List Int} {low : Int} {j : Nat} {z : Int} (h : ns.length ≤ 40) (h0 : 0 < ns.length) (hz : 0 ≤ low → 0 ≤ z) : Deed ns (ns.set j z) low :=
  ⟨by rw [List.length_set]; exact h, by rw [List.length_set]; exact h0, fun l nn x hx => by
    rcases List.mem_or_eq_of_mem_set hx with e | e
    · exact nn x e
    · rw [e]
      exact hz l⟩
theorem deed_ins {ns : List Int} {low : Int} {j : Nat} {z : Int} (h : ns.length < 40) (hz : 0 ≤ low → 0 ≤ z) : Deed ns (ns.take j ++ [z] ++ ns.drop j) low :=
  ⟨by rw [List.length_append, List.length_append, List.length_take, List.length_drop, List.length_singleton]; omega, by rw [List.length_append, List.length_append, List.length_singleton]; omega, fun l nn x hx => by
    rcases List.mem_append.mp hx with e | e
    · rcases List.mem_append.mp e with e | e
      · exact nn x (List.mem_of_mem_take e)
      · rw [List.mem_singleton.mp e]
        exact hz l
    · exact nn x (List.mem_of_mem_drop e)⟩
theorem deed_pop {ns : List Int} {low : Int} {j : Nat} (h : ns.length ≤ 40) (h0 : 1 < ns.length) : Deed ns (ns.eraseIdx j) low :=
  ⟨by rw [List.length_eraseIdx]; split <;> omega, by rw [List.length_eraseIdx]; split <;> omega, fun _ nn x hx => nn x (List.mem_of_mem_eraseIdx hx)⟩
theorem addTo_nn {ns : List Int} {i k : Nat} {z : Int} (hz : 0 ≤ z) (nn : ∀ x ∈ ns, 0 ≤ x) : ∀ x ∈ addTo ns i k z, 0 ≤ x := by
  induction k with
  | zero => exact nn
  | succ k ih =>
    intro x hx
    rcases List.mem_or_eq_of_mem_set hx with e | e
    · exact ih x e
    · rw [e]
      have g : 0 ≤ (addTo ns i k z).getD (i + k) 0 := by
        rw [List.getD_eq_getElem?_getD]
        cases q : (addTo ns i k z)[i + k]? with
        | none => exact Int.le_refl 0
        | some y => exact ih y (List.mem_of_getElem? q)
      omega
theorem deed_add {ns : List Int} {low : Int} {i k : Nat} {z : Int} (h : ns.length ≤ 40) (h0 : 0 < ns.length) (hz : 0 ≤ low → 0 ≤ z) : Deed ns (addTo ns i k z) low :=
  ⟨by rw [addTo_len]; exact h, by rw [addTo_len]; exact h0, fun l nn => addTo_nn (hz l) nn⟩
def But2 (l k : Addr) (H H' : Hp) : Prop := ∀ b o, H b = some o → b ≠ l → b ≠ k → H' b = some o
theorem But2.refl {l k : Addr} (H : Hp) : But2 l k H H := fun _ _ e _ _ => e
theorem But2.up1 {l k : Addr} {H H' : Hp} {o : HO} (h : But2 l k H H') : But2 l k H (upd H' l o) := fun b u e n1 n2 => by
  rw [upd_ne n1]
  exact h b u e n1 n2
theorem But2.up2 {l k : Addr} {H H' : Hp} {o : HO} (h : But2 l k H H') : But2 l k H (upd H' k o) := fun b u e n1 n2 => by
  rw [upd_ne n2]
  exact h b u e n1 n2
theorem But2.thn {l k : Addr} {H H1 H' : Hp} (h : But2 l k H H1) (h' : But l H1 H') : But2 l k H H' := fun b u e n1 n2 => h' b u (h b u e n1 n2) n1
theorem But2.thn2 {l k : Addr} {H H1 H' : Hp} (h : But2 l k H H1) (h' : But k H1 H') : But2 l k H H' := fun b u e n1 n2 => h' b u (h b u e n1 n2) n2
theorem sc__law_deed : FnScope ["row", "kept", "cell", "low", "number", "at", "behind", "k"] ["row", "kept", "cell", "low"] (defScope s__law_deed) := ⟨rfl, rfl, rfl, by decide +kernel, rfl, by decide +kernel, by decide +kernel⟩
def sp__law_deed (_ : PySem.W.Frag) (C : Addr) : Sp := fun vs H Q _ => ∃ (p dx l k : Addr) (ns : List Int) (c low : Int), vs = [.ref p, .ref k, .int c, .int low] ∧ H p = some (.ins C dx (rowF l)) ∧ H l = some (.lst (ns.map V.int)) ∧ H k = some (.lst (ns.map V.int)) ∧ ns.length ≤ 40 ∧ 0 < ns.length ∧ p ≠ l ∧ p ≠ k ∧ l ≠ k ∧
  ∀ (H' : Hp) (ms : List Int), But2 l k H H' → H' l = some (.lst (ms.map V.int)) → H' k = some (.lst (ms.map V.int)) → Deed ns ms low → Q .non H'
theorem ok__law_deed {f : Addr} {fd : FuncData} (F : Fun K "_law_deed" "_law_deed" s__law_deed f fd) (T : Txt K mg C) (c_Row_set_at : C8.Met P w K mg base 2 C "set_at" (sp_Row_set_at K C) []) (c_Row_put_in : C8.Met P w K mg base 2 C "put_in" (sp_Row_put_in K C) []) (c_Row_take_out : C8.Met P w K mg base 2 C "take_out" (sp_Row_take_out K C) []) (c_Row_add_to : C8.Met P w K mg base 2 C "add_to" (sp_Row_add_to K C) []) : FnOk P w K mg base CX0 3 f fd ["row", "kept", "cell", "low"] (sp__law_deed K C) := by
  refine F.ok sc__law_deed (fun vs H Q E h => ?_) (fun cdv A outer s H vs Q E hr h => ?_)
  · obtain ⟨p, dx, l, k, ns, c, low, rfl, hp, hL, hk, hn, hn0, npl, npk, nlk, q⟩ := h
    rfl
  · obtain ⟨p, dx, l, k, ns, c, low, rfl, hp, hL, hk, hn, hn0, npl, npk, nlk, q⟩ := h
    have hcl := T.cl
    have hnK := T.nK
    refine ⟨_, (pss_cons (ps_set (i := 4) sc__law_deed.nd rfl (by first | exact Or.inl rfl | exact Or.inr rfl) (pe_op op_add (pv 3) (pe_op op_mod (pe_op op_fdiv (pv 2) pe_int) pe_int)))
      (pss_cons (ps_set (i := 5) sc__law_deed.nd rfl (by first | exact Or.inl rfl | exact Or.inr rfl) (pe_op op_mod (pe_op op_fdiv (pv 2) pe_int) (pe_callB c_len (by rfl) T.b_len PySem.boot_len (pa_cons (pv 1) pa_nil))))
      (pss_one (ps_if (pt_cmpR op_eq (pe_op op_mod (pv 2) pe_int) pe_int (nomark _)) (pss_cons (ps_asg (pv 4) (pg_sub (pv 1) (pv 5) set_list))
      (pss_one (ps_expr (C8.pe_mt c_Row_set_at hr (by decide) (pv 0) (pa_cons (pv 5) (pa_cons (pv 4) pa_nil)))))) (pss_one (ps_if (PW.pt (pw_and (pt_cmpR op_eq (pe_op op_mod (pv 2) pe_int) pe_int (nomark _)) (pw_and1 (pt_cmpR op_lt (pe_callB c_len (by rfl) T.b_len PySem.boot_len (pa_cons (pv 1) pa_nil)) pe_int (nomark _))))) (pss_cons (ps_expr (pe_bm PySem.F.plainAttrs_list PySem.F.slot_list_insert PySem.F.type_list_insert m_insert (pv 1) (pa_cons (pv 5) (pa_cons (pv 4) pa_nil))))
      (pss_one (ps_expr (C8.pe_mt c_Row_put_in hr (by decide) (pv 0) (pa_cons (pv 5) (pa_cons (pv 4) pa_nil)))))) (pss_one (ps_if (PW.pt (pw_and (pt_cmpR op_eq (pe_op op_mod (pv 2) pe_int) pe_int (nomark _)) (pw_and1 (pt_cmpR op_gt (pe_callB c_len (by rfl) T.b_len PySem.boot_len (pa_cons (pv 1) pa_nil)) pe_int (nomark _))))) (pss_cons (ps_expr (pe_bm PySem.F.plainAttrs_list PySem.F.slot_list_pop PySem.F.type_list_pop mt_popAt (pv 1) (pa_cons (pv 5) pa_nil)))
      (pss_one (ps_expr (C8.pe_mt c_Row_take_out hr (by decide) (pv 0) (pa_cons (pv 5) pa_nil))))) (pss_cons (ps_set (i := 6) sc__law_deed.nd rfl (by first | exact Or.inl rfl | exact Or.inr rfl) (pe_op op_add (pe_op op_add (pv 5) pe_int) (pe_op op_mod (pe_op op_fdiv (pv 2) pe_int) (pe_op op_sub (pe_callB c_len (by rfl) T.b_len PySem.boot_len (pa_cons (pv 1) pa_nil)) (pv 5)))))
      (pss_cons (ps_for PassesOwn.never rfl (pi_range2 (by rfl) T.b_range (pa_cons (pv 5) (pa_cons (pv 6) pa_nil))) (pg_name (i := 7) sc__law_deed.nd rfl (by first | exact Or.inl rfl | exact Or.inr rfl)) (pss_one (ps_asg (pe_op op_add (pe_ix ix_list (pv 1) (pv 7) (fun _ _ => rfl)) (pe_op op_mul pe_int (pv 4))) (pg_sub (pv 1) (pv 7) set_list))))
      (pss_one (ps_expr (C8.pe_mt c_Row_add_to hr (by decide) (pv 0) (pa_cons (pv 5) (pa_cons (pv 6) (pa_cons (pe_op op_mul pe_int (pv 4)) pa_nil)))))))))))))))), ?_⟩
    walk_at "go"
    have n0 := Int.emod_nonneg (c / 500) (show (9 : Int) ≠ 0 by decide)
    have z0 := Int.emod_nonneg (c / 5) (show (ns.length : Int) ≠ 0 by omega)
    have z1 := Int.emod_lt_of_pos (c / 5) (show (0 : Int) < (ns.length : Int) by omega)
    have hz : 0 ≤ low → 0 ≤ low + c / 500 % 9 := fun h => by omega
    have hz3 : 0 ≤ low → 0 ≤ 3 * (low + c / 500 % 9) := fun h => by omega
    generalize low + c / 500 % 9 = num at hz hz3
    generalize c / 5 % (ns.length : Int) = at' at z0 z1
    refine brD (fun e => ?_) (fun e => ?_)
    · walk_at "go"
      refine r_setL hk z0 z1 ?_
      walk_at "go"
      refine ⟨p, dx, l, ns, at', num, rfl, up_get npk hp, up_get nlk hL, z0, z1, ?_⟩
      walk_at "go"
      exact q _ (ns.set at'.toNat num) (But2.refl H).up2.up1 upd_same (up_get nlk.symm upd_same) (deed_set hn hn0 hz)
    walk_at "go"
    walk_at "and"
    refine brA (fun e2 e2' => ?_) (fun e2 => ?_)
    · walk_at "go"
      refine r_ins hk (by rw [List.length_map]; omega) z0 (by omega) ?_
      rw [← List.map_take, ← List.map_drop, snoc_int, ← List.map_append]
      walk_at "go"
      refine ⟨p, dx, l, ns, at', num, rfl, up_get npk hp, up_get nlk hL, by omega, z0, by omega, ?_⟩
      walk_at "go"
      exact q _ (ns.take at'.toNat ++ [num] ++ ns.drop at'.toNat) (But2.refl _).up2.up1 upd_same (up_get nlk.symm upd_same) (deed_ins (by omega) hz)
    walk_at "go"
    walk_at "and"
    refine brA (fun e3 e3' => ?_) (fun e3 => ?_)
    · have hat : ns[at'.toNat]? = some (ns.getD at'.toNat 0) := getD_at (by omega)
      walk_at "go"
      refine r_popAt hk z0 (by omega) hat ?_
      walk_at "go"
      refine ⟨p, dx, l, ns, at', ns.getD at'.toNat 0, rfl, up_get npk hp, up_get nlk hL, by omega, z0, hat, ?_⟩
      walk_at "go"
      exact q _ (ns.eraseIdx at'.toNat) (But2.refl _).up2.up1 upd_same (up_get nlk.symm upd_same) (deed_pop hn (by omega))
    have y0 := Int.emod_nonneg (c / 4500) (show (ns.length : Int) - at' ≠ 0 by omega)
    have y1 := Int.emod_lt_of_pos (c / 4500) (show (0 : Int) < (ns.length : Int) - at' by omega)
    walk_at "go"
    generalize c / 4500 % ((ns.length : Int) - at') = d at y0 y1
    refine r_loopR (fun i σ H1 => ∃ v, σ = [some (.ref p), some (.ref k), some (.int c), some (.int low), some (.int num), some (.int at'), some (.int (at' + 1 + d)), v] ∧ But k H H1 ∧ H1 k = some (.lst ((addTo ns at'.toNat i (3 * num)).map V.int))) ?_ ?_ ?_
    · exact ⟨_, rfl, But.of (Same.refl _), hk⟩
    · rintro i σ H1 hi ⟨v, rfl, b1, hk1⟩
      have hlen := addTo_len ns at'.toNat i (3 * num)
      have ek : (at' + (i : Int)).toNat = at'.toNat + i := by omega
      have hx : ((addTo ns at'.toNat i (3 * num)).map V.int)[(at' + (i : Int)).toNat]? = some (.int ((addTo ns at'.toNat i (3 * num)).getD (at'.toNat + i) 0)) := by
        rw [List.getElem?_map, ek, getD_at (by omega)] <;> rfl
      walk_at "go"
      refine r_ixL (VT.SqL.lst hk1) (r_at (by omega) hx) ?_
      walk_at "go"
      refine r_setL hk1 (by omega) (by omega) ?_
      refine ⟨_, rfl, b1.up, ?_⟩
      rw [upd_same, ek] <;> rfl
    · rintro σ H1 ⟨v, rfl, b1, hk1⟩
      walk_at "go"
      refine ⟨p, dx, l, ns, at', at' + 1 + d, 3 * num, rfl, b1 _ _ hp npk, b1 _ _ hL nlk, by omega, npl, z0, by omega, by omega, fun H2 b2 hl2 => ?_⟩
      walk_at "go"
      exact q H2 _ (((But2.refl _).thn2 b1).thn b2) hl2 (b2 _ _ hk1 nlk.symm) (deed_add hn hn0 hz3)
def absL (ns : List Int) (i : Nat) : List V := ((ns.take i).map fun x => if x < 0 then -x else x).map V.int
theorem absL_more {ns : List Int} {i : Nat} {x : Int} (h : ns[i]? = some x) : absL ns (i + 1) = absL ns i ++ [V.int (if x < 0 then -x else x)] := by
  unfold absL
  rw [take_more h, List.map_append, List.map_append]
  rfl
theorem absL_all (ns : List Int) : absL ns ns.length = (ns.map fun x => if x < 0 then -x else x).map V.int := by
  unfold absL
  rw [List.take_length]
theorem abs_nn (ns : List Int) : ∀ x ∈ ns.map (fun x => if x < 0 then -x else x), (0 : Int) ≤ x := fun x hx => by
  obtain ⟨y, _, rfl⟩ := List.mem_map.mp hx
  split <;> omega
theorem sc_law : FnScope ["script", "kept", "row", "number"] ["script"] (defScope s_law) := ⟨rfl, rfl, rfl, by decide +kernel, rfl, by decide +kernel, by decide +kernel⟩
def sp_law (K : PySem.W.Frag) (_ : Addr) : Sp := fun vs H Q _ => ∃ (a : Addr) (ns : List Int), vs = [.ref a] ∧ SqL K H a (ns.map V.int) ∧ ns.length ≤ 63 ∧ ∀ H', Q (.bl true) H'
theorem law_in {K : PySem.W.Frag} {H : Hp} {a : Addr} {ns : List Int} {E : XK} (hS : SqL K H a (ns.map V.int)) (hl : ns.length ≤ 63) : sp_law K 0 [.ref a] H (fun v _ => v = .bl true) E := ⟨a, ns, rfl, hS, hl, fun _ => rfl⟩
theorem ok_law {f : Addr} {fd : FuncData} (F : Fun K "law" "law" s_law f fd) (T : Txt K mg C) (c__law_right : C8.Cal P w K mg base 3 "_law_right" (sp__law_right K C) []) (c__law_deed : C8.Cal P w K mg base 3 "_law_deed" (sp__law_deed K C) []) (c__law_cell_at : C8.Cal P w K mg base 1 "_law_cell_at" (sp__law_cell_at K C) []) (c_Row : C8.Mak P w K mg base 1 "Row" C (sp_Row___init__ K C) []) (c__law_row : C8.Cal P w K mg base 2 "_law_row" (sp__law_row K C) []) : FnOk P w K mg base CX0 4 f fd ["script"] (sp_law K C) := by
  refine F.ok sc_law (fun vs H Q E h => ?_) (fun cdv A outer s H vs Q E hr h => ?_)
  · obtain ⟨a, ns, rfl, hS, hl, k⟩ := h
    rfl
  · obtain ⟨a, ns, rfl, hS, hl, k⟩ := h
    have hcl := T.cl
    have hnK := T.nK
    refine ⟨_, (pss_cons (ps_setLc (i := 1) (own := [("number", 3)]) (g := gName 3) (tt := tYes) rfl sc_law.nd rfl rfl (sw_true rfl rfl rfl (by decide +kernel)) (pi_list (C8.pe_c c__law_row hr (by decide) rfl (pa_cons (pv 0) (pa_cons pe_int (pa_cons pe_int pa_nil))))) (blkOk_by (own := [("number", 3)]) (N := ["script", "kept", "row", "number"]) (sc := (defScope s_law)) (by decide +kernel)) (fun _ _ _ _ _ => pg_name (i := 3) sc_law.nd rfl (by first | exact Or.inl rfl | exact Or.inr rfl)) (fun _ _ _ _ _ => pts_nil) (fun _ _ _ _ _ => (pe_callB c_abs (by rfl) T.b_abs (by decide +kernel) (pa_cons (pv 3) pa_nil))))
      (C8.pss_cut (ps_if (pt_cmpR op_eq (pe_callB c_len (by rfl) T.b_len PySem.boot_len (pa_cons (pv 1) pa_nil)) pe_int (nomark _)) (pss_one (ps_set (i := 1) sc_law.nd rfl (by first | exact Or.inl rfl | exact Or.inr rfl) (pe_lst (pa_cons pe_int pa_nil)))) pss_nil)
      (pss_cons (ps_set (i := 2) sc_law.nd rfl (by first | exact Or.inl rfl | exact Or.inr rfl) (C8.pe_mk c_Row hr (by decide) rfl (pa_cons (pe_callTy c_listOf (by rfl) T.b_list (by decide +kernel) (pa_cons (pv 1) pa_nil)) pa_nil)))
      (pss_cons (ps_if (pt_not (pt_val (C8.pe_c c__law_right hr (by decide) rfl (pa_cons (pv 2) (pa_cons (pv 1) pa_nil))))) (pss_one (ps_ret pe_bl)) pss_nil)
      (pss_cons (ps_expr (C8.pe_c c__law_deed hr (by decide) rfl (pa_cons (pv 2) (pa_cons (pv 1) (pa_cons (C8.pe_c c__law_cell_at hr (by decide) rfl (pa_cons (pv 0) (pa_cons pe_int pa_nil))) (pa_cons pe_int pa_nil))))))
      (pss_one (ps_ret (C8.pe_c c__law_right hr (by decide) rfl (pa_cons (pv 2) (pa_cons (pv 1) pa_nil)))))))))), ?_⟩
    walk_at "go"
    refine ⟨a, ns, 0, 24, rfl, hS, by omega, by omega, by omega, by omega, fun kq ms H1 nk s1 hk hm _ => ?_⟩
    walk_at "go"
    refine r_LcL (xs := ms.map V.int) (VT.SqL.lst hk) (absL ms) rfl (fun i _ => by unfold absL; rw [List.length_map, List.length_map, List.length_take]; omega) (fun _ => rfl) (fun i y H' N Z hi s hN hZ => ?_) (fun kp H2 nkp s2 hkp => ?_)
    · obtain ⟨y, hy, rfl⟩ := nth_int hi
      walk_at "go"
      refine iteT ?_
      walk_at "go"
      refine r_abs ?_
      exact hN _ _ (Same.refl _) (absL_more hy)
    rw [List.length_map, absL_all] at hkp
    have hnn := abs_nn ms
    have hml : (ms.map fun x => if x < 0 then -x else x).length ≤ 24 := by rw [List.length_map]; omega
    generalize (ms.map fun x => if x < 0 then -x else x) = ns2 at hkp hnn hml
    have s02 := s1.trans s2
    have fkp : H kp = none := s1.free nkp
    walk_at "go"
    refine r_cut (fun σ' H' => ∃ (kp : Addr) (ks : List Int) (v2 v3 : Option V), σ' = [some (.ref a), some (.ref kp), v2, v3] ∧ Same H H' ∧ H kp = none ∧ H' kp = some (.lst (ks.map V.int)) ∧ ks.length ≤ 24 ∧ 0 < ks.length ∧ ∀ x ∈ ks, 0 ≤ x) ?_ ?_
    · walk_at "go"
      refine brD (fun c => ?_) (fun c => ?_)
      · walk_at "go"
        intro kz nkz
        have sZ := same_new nkz (.lst [V.int 0])
        walk_at "go"
        refine ⟨kz, [0], _, _, rfl, s02.trans sZ, s02.free nkz, upd_same, by decide, by decide, fun x hx => ?_⟩
        rw [List.mem_singleton.mp hx]
        exact Int.le_refl _
      · walk_at "go"
        exact ⟨kp, ns2, _, _, rfl, s02, fkp, hkp, hml, by omega, hnn⟩
    clear hkp hnn hml fkp nkp s02 s2 s1
    rintro σ' H2 ⟨kp, ks, v2, v3, rfl, s02, fkp, hkp, hml, hk0, hnn⟩
    walk_at "go"
    refine r_listOf (VT.SqL.lst hkp) fun ha nha => ?_
    have sA := same_new nha (.lst (ks.map V.int))
    walk_at "go"
    refine mk_row (ns := ks) (VT.SqL.lst upd_same) (by omega) fun p l d H3 s3 np nl npl hp hl => ?_
    have s12 := sA.trans s3
    have hk2 := s12 _ _ hkp
    have npk : p ≠ kp := (ne_of_none (sA _ _ hkp) np).symm
    have nlk : l ≠ kp := (ne_of_none (sA _ _ hkp) nl).symm
    walk_at "go"
    refine ⟨p, d, l, kp, ks, rfl, hp, hl, hk2, by omega, hk0, hnn, fun H4 s4 => ?_⟩
    have hk3 := s4 _ _ hk2
    walk_at "go"
    refine iteF ?_
    walk_at "go"
    refine ⟨a, ns, 26, rfl, ((s02.trans s12).trans s4).seq hS, by omega, ?_⟩
    walk_at "go"
    refine ⟨p, d, l, kp, ks, _, _, rfl, s4 _ _ hp, s4 _ _ hl, hk3, by omega, by omega, npl, npk, nlk, fun H5 zs b4 hl4 hk4 hd => ?_⟩
    walk_at "go"
    refine ⟨p, d, l, kp, zs, rfl, b4 _ _ (s4 _ _ hp) npl npk, hl4, hk4, hd.len, hd.ne, hd.nn (Int.le_refl _) hnn, fun H6 s6 => ?_⟩
    exact k _
end
theorem all_mk {l : PySem.W.OpenLaw} {w : World} {K : PySem.W.Frag} {h : Heap} {mg : Str → Option Value} {fa C : Addr} {f1 f2 f3 f4 f5 f6 f7 f8 f9 f10 f11 f12 f13 f14 f15 f16 f17 : Addr} (X : K.In h) (G : h.Ns mainGlobals mg) (hfa : mg "law" = some (.ref fa))
    (aC : PySem.W.nsIn K mainGlobals "Row" = some (some (.ref C))) (pg : PySem.W.plainGet K C Str.empty = true) (hd : PySem.W.hasDictIn K C = true) (po : PySem.W.plainOver K C = true) (sa : PySem.W.findIn K (.ref C) "__setattr__" = some (some (.builtin "object.__setattr__"))) (mk : PySem.W.makesIn K C = true) (kc : PySem.W.keepIn K (.ref C) = true) (nK : PySem.W.findIn K (.ref C) "kept" = some none)
    {od1 an1 : Option Addr} {sl1 : Array (Option Value)} {oc1 kV1 dc1 pm1 cd1 ct1 : Value}
    (a1 : PySem.W.nsIn K mainGlobals "ask_sky" = some (some (.ref f1)))
    (l1 : K.lookup f1 = some ⟨oc1, od1, .func (PySem.W.fnOf "ask_sky" "ask_sky" (defArgs s_ask_sky) (defBody s_ask_sky) (defScope s_ask_sky) .none kV1 dc1 pm1 an1 cd1 ct1), sl1⟩) (c1 : PySem.W.codeIn K cd1 "ask_sky" = true) (k1 : PySem.W.keepIn K (.ref f1) = true)
    {od2 an2 : Option Addr} {sl2 : Array (Option Value)} {oc2 kV2 dc2 pm2 cd2 ct2 : Value}
    (a2 : PySem.W.findIn K (.ref C) "numbers" = some (some (.ref f2))) (i2 : PySem.W.isFn K (.ref f2) = true)
    (l2 : K.lookup f2 = some ⟨oc2, od2, .func (PySem.W.fnOf "numbers" "Row.numbers" (defArgs s_Row_numbers) (defBody s_Row_numbers) (defScope s_Row_numbers) .none kV2 dc2 pm2 an2 cd2 ct2), sl2⟩) (c2 : PySem.W.codeIn K cd2 "Row.numbers" = true) (k2 : PySem.W.keepIn K (.ref f2) = true)
    {od3 an3 : Option Addr} {sl3 : Array (Option Value)} {oc3 kV3 dc3 pm3 cd3 ct3 : Value}
    (a3 : PySem.W.nsIn K mainGlobals "widest" = some (some (.ref f3)))
    (l3 : K.lookup f3 = some ⟨oc3, od3, .func (PySem.W.fnOf "widest" "widest" (defArgs s_widest) (defBody s_widest) (defScope s_widest) .none kV3 dc3 pm3 an3 cd3 ct3), sl3⟩) (c3 : PySem.W.codeIn K cd3 "widest" = true) (k3 : PySem.W.keepIn K (.ref f3) = true)
    {od4 an4 : Option Addr} {sl4 : Array (Option Value)} {oc4 kV4 dc4 pm4 cd4 ct4 : Value}
    (a4 : PySem.W.findIn K (.ref C) "__init__" = some (some (.ref f4))) (i4 : PySem.W.isFn K (.ref f4) = true)
    (l4 : K.lookup f4 = some ⟨oc4, od4, .func (PySem.W.fnOf "__init__" "Row.__init__" (defArgs s_Row___init__) (defBody s_Row___init__) (defScope s_Row___init__) .none kV4 dc4 pm4 an4 cd4 ct4), sl4⟩) (c4 : PySem.W.codeIn K cd4 "Row.__init__" = true) (k4 : PySem.W.keepIn K (.ref f4) = true)
    {od5 an5 : Option Addr} {sl5 : Array (Option Value)} {oc5 kV5 dc5 pm5 cd5 ct5 : Value}
    (a5 : PySem.W.findIn K (.ref C) "ask" = some (some (.ref f5))) (i5 : PySem.W.isFn K (.ref f5) = true)
    (l5 : K.lookup f5 = some ⟨oc5, od5, .func (PySem.W.fnOf "ask" "Row.ask" (defArgs s_Row_ask) (defBody s_Row_ask) (defScope s_Row_ask) .none kV5 dc5 pm5 an5 cd5 ct5), sl5⟩) (c5 : PySem.W.codeIn K cd5 "Row.ask" = true) (k5 : PySem.W.keepIn K (.ref f5) = true)
    {od6 an6 : Option Addr} {sl6 : Array (Option Value)} {oc6 kV6 dc6 pm6 cd6 ct6 : Value}
    (a6 : PySem.W.findIn K (.ref C) "ask_stretch" = some (some (.ref f6))) (i6 : PySem.W.isFn K (.ref f6) = true)
    (l6 : K.lookup f6 = some ⟨oc6, od6, .func (PySem.W.fnOf "ask_stretch" "Row.ask_stretch" (defArgs s_Row_ask_stretch) (defBody s_Row_ask_stretch) (defScope s_Row_ask_stretch) .none kV6 dc6 pm6 an6 cd6 ct6), sl6⟩) (c6 : PySem.W.codeIn K cd6 "Row.ask_stretch" = true) (k6 : PySem.W.keepIn K (.ref f6) = true)
    {od7 an7 : Option Addr} {sl7 : Array (Option Value)} {oc7 kV7 dc7 pm7 cd7 ct7 : Value}
    (a7 : PySem.W.findIn K (.ref C) "set_at" = some (some (.ref f7))) (i7 : PySem.W.isFn K (.ref f7) = true)
    (l7 : K.lookup f7 = some ⟨oc7, od7, .func (PySem.W.fnOf "set_at" "Row.set_at" (defArgs s_Row_set_at) (defBody s_Row_set_at) (defScope s_Row_set_at) .none kV7 dc7 pm7 an7 cd7 ct7), sl7⟩) (c7 : PySem.W.codeIn K cd7 "Row.set_at" = true) (k7 : PySem.W.keepIn K (.ref f7) = true)
    {od8 an8 : Option Addr} {sl8 : Array (Option Value)} {oc8 kV8 dc8 pm8 cd8 ct8 : Value}
    (a8 : PySem.W.findIn K (.ref C) "take_out" = some (some (.ref f8))) (i8 : PySem.W.isFn K (.ref f8) = true)
    (l8 : K.lookup f8 = some ⟨oc8, od8, .func (PySem.W.fnOf "take_out" "Row.take_out" (defArgs s_Row_take_out) (defBody s_Row_take_out) (defScope s_Row_take_out) .none kV8 dc8 pm8 an8 cd8 ct8), sl8⟩) (c8 : PySem.W.codeIn K cd8 "Row.take_out" = true) (k8 : PySem.W.keepIn K (.ref f8) = true)
    {od9 an9 : Option Addr} {sl9 : Array (Option Value)} {oc9 kV9 dc9 pm9 cd9 ct9 : Value}
    (a9 : PySem.W.findIn K (.ref C) "put_in" = some (some (.ref f9))) (i9 : PySem.W.isFn K (.ref f9) = true)
    (l9 : K.lookup f9 = some ⟨oc9, od9, .func (PySem.W.fnOf "put_in" "Row.put_in" (defArgs s_Row_put_in) (defBody s_Row_put_in) (defScope s_Row_put_in) .none kV9 dc9 pm9 an9 cd9 ct9), sl9⟩) (c9 : PySem.W.codeIn K cd9 "Row.put_in" = true) (k9 : PySem.W.keepIn K (.ref f9) = true)
    {od10 an10 : Option Addr} {sl10 : Array (Option Value)} {oc10 kV10 dc10 pm10 cd10 ct10 : Value}
    (a10 : PySem.W.findIn K (.ref C) "add_to" = some (some (.ref f10))) (i10 : PySem.W.isFn K (.ref f10) = true)
    (l10 : K.lookup f10 = some ⟨oc10, od10, .func (PySem.W.fnOf "add_to" "Row.add_to" (defArgs s_Row_add_to) (defBody s_Row_add_to) (defScope s_Row_add_to) .none kV10 dc10 pm10 an10 cd10 ct10), sl10⟩) (c10 : PySem.W.codeIn K cd10 "Row.add_to" = true) (k10 : PySem.W.keepIn K (.ref f10) = true)
    {od11 an11 : Option Addr} {sl11 : Array (Option Value)} {oc11 kV11 dc11 pm11 cd11 ct11 : Value}
    (a11 : PySem.W.nsIn K mainGlobals "_law_cell_at" = some (some (.ref f11)))
    (l11 : K.lookup f11 = some ⟨oc11, od11, .func (PySem.W.fnOf "_law_cell_at" "_law_cell_at" (defArgs s__law_cell_at) (defBody s__law_cell_at) (defScope s__law_cell_at) .none kV11 dc11 pm11 an11 cd11 ct11), sl11⟩) (c11 : PySem.W.codeIn K cd11 "_law_cell_at" = true) (k11 : PySem.W.keepIn K (.ref f11) = true)
    {od12 an12 : Option Addr} {sl12 : Array (Option Value)} {oc12 kV12 dc12 pm12 cd12 ct12 : Value}
    (a12 : PySem.W.nsIn K mainGlobals "_law_whole" = some (some (.ref f12)))
    (l12 : K.lookup f12 = some ⟨oc12, od12, .func (PySem.W.fnOf "_law_whole" "_law_whole" (defArgs s__law_whole) (defBody s__law_whole) (defScope s__law_whole) .none kV12 dc12 pm12 an12 cd12 ct12), sl12⟩) (c12 : PySem.W.codeIn K cd12 "_law_whole" = true) (k12 : PySem.W.keepIn K (.ref f12) = true)
    {od13 an13 : Option Addr} {sl13 : Array (Option Value)} {oc13 kV13 dc13 pm13 cd13 ct13 : Value}
    (a13 : PySem.W.nsIn K mainGlobals "_law_draw" = some (some (.ref f13)))
    (l13 : K.lookup f13 = some ⟨oc13, od13, .func (PySem.W.fnOf "_law_draw" "_law_draw" (defArgs s__law_draw) (defBody s__law_draw) (defScope s__law_draw) .none kV13 dc13 pm13 an13 cd13 ct13), sl13⟩) (c13 : PySem.W.codeIn K cd13 "_law_draw" = true) (k13 : PySem.W.keepIn K (.ref f13) = true)
    {od14 an14 : Option Addr} {sl14 : Array (Option Value)} {oc14 kV14 dc14 pm14 cd14 ct14 : Value}
    (a14 : PySem.W.nsIn K mainGlobals "_law_row" = some (some (.ref f14)))
    (l14 : K.lookup f14 = some ⟨oc14, od14, .func (PySem.W.fnOf "_law_row" "_law_row" (defArgs s__law_row) (defBody s__law_row) (defScope s__law_row) .none kV14 dc14 pm14 an14 cd14 ct14), sl14⟩) (c14 : PySem.W.codeIn K cd14 "_law_row" = true) (k14 : PySem.W.keepIn K (.ref f14) = true)
    {od15 an15 : Option Addr} {sl15 : Array (Option Value)} {oc15 kV15 dc15 pm15 cd15 ct15 : Value}
    (a15 : PySem.W.nsIn K mainGlobals "_law_right" = some (some (.ref f15)))
    (l15 : K.lookup f15 = some ⟨oc15, od15, .func (PySem.W.fnOf "_law_right" "_law_right" (defArgs s__law_right) (defBody s__law_right) (defScope s__law_right) .none kV15 dc15 pm15 an15 cd15 ct15), sl15⟩) (c15 : PySem.W.codeIn K cd15 "_law_right" = true) (k15 : PySem.W.keepIn K (.ref f15) = true)
    {od16 an16 : Option Addr} {sl16 : Array (Option Value)} {oc16 kV16 dc16 pm16 cd16 ct16 : Value}
    (a16 : PySem.W.nsIn K mainGlobals "_law_deed" = some (some (.ref f16)))
    (l16 : K.lookup f16 = some ⟨oc16, od16, .func (PySem.W.fnOf "_law_deed" "_law_deed" (defArgs s__law_deed) (defBody s__law_deed) (defScope s__law_deed) .none kV16 dc16 pm16 an16 cd16 ct16), sl16⟩) (c16 : PySem.W.codeIn K cd16 "_law_deed" = true) (k16 : PySem.W.keepIn K (.ref f16) = true)
    {od17 an17 : Option Addr} {sl17 : Array (Option Value)} {oc17 kV17 dc17 pm17 cd17 ct17 : Value}
    (a17 : PySem.W.nsIn K mainGlobals "law" = some (some (.ref f17)))
    (l17 : K.lookup f17 = some ⟨oc17, od17, .func (PySem.W.fnOf "law" "law" (defArgs s_law) (defBody s_law) (defScope s_law) .none kV17 dc17 pm17 an17 cd17 ct17), sl17⟩) (c17 : PySem.W.codeIn K cd17 "law" = true) (k17 : PySem.W.keepIn K (.ref f17) = true)
    (z_abs : PySem.W.nsIn K mainGlobals "abs" = some none)
    (z_bool : PySem.W.nsIn K mainGlobals "bool" = some none)
    (z_int : PySem.W.nsIn K mainGlobals "int" = some none)
    (z_isinstance : PySem.W.nsIn K mainGlobals "isinstance" = some none)
    (z_len : PySem.W.nsIn K mainGlobals "len" = some none)
    (z_list : PySem.W.nsIn K mainGlobals "list" = some none)
    (z_min : PySem.W.nsIn K mainGlobals "min" = some none)
    (z_range : PySem.W.nsIn K mainGlobals "range" = some none)
    (z_tuple : PySem.W.nsIn K mainGlobals "tuple" = some none)
    {tk_MOST : Tok} (g_MOST : PySem.W.nsIn K mainGlobals "MOST" = some (some (.int 40 tk_MOST)))
    : ∃ fd : FuncData, (∀ (s : Shared) (v : Value), BindsTo s fd ⟨[v], []⟩ [("script", v)]) ∧ ∀ base : Heap, K.In base → base.Ns mainGlobals mg → FnOk l.prog w K mg base CX0 4 fa fd ["script"] (sp_law K 0) := by
  have e := hfa.symm.trans (PySem.W.mg_of X G a17)
  cases e
  have T : Txt K mg C := { cl := ⟨pg, hd, po, sa⟩, nK := nK, mgC := PySem.W.mg_of X G aC, b_abs := PySem.W.mg_none_of X G z_abs, b_bool := PySem.W.mg_none_of X G z_bool, b_int := PySem.W.mg_none_of X G z_int, b_isinstance := PySem.W.mg_none_of X G z_isinstance, b_len := PySem.W.mg_none_of X G z_len, b_list := PySem.W.mg_none_of X G z_list, b_min := PySem.W.mg_none_of X G z_min, b_range := PySem.W.mg_none_of X G z_range, b_tuple := PySem.W.mg_none_of X G z_tuple, g_MOST := ⟨_, PySem.W.mg_of X G g_MOST, ⟨_, rfl⟩⟩ }
  have F1 := fun_mk (st := s_ask_sky) l1 c1 k1
  have b1 := F1.binds (ps := ["numbers"]) fun _ _ _ _ _ _ us hl => match us, hl with | [_], _ => rfl
  have F2 := fun_mk (st := s_Row_numbers) l2 c2 k2
  have b2 := F2.binds (ps := ["self"]) fun _ _ _ _ _ _ us hl => match us, hl with | [_], _ => rfl
  have F3 := fun_mk (st := s_widest) l3 c3 k3
  have b3 := F3.binds (ps := ["row"]) fun _ _ _ _ _ _ us hl => match us, hl with | [_], _ => rfl
  have F4 := fun_mk (st := s_Row___init__) l4 c4 k4
  have b4 := F4.binds (ps := ["self", "numbers"]) fun _ _ _ _ _ _ us hl => match us, hl with | [_, _], _ => rfl
  have F5 := fun_mk (st := s_Row_ask) l5 c5 k5
  have b5 := F5.binds (ps := ["self", "place", "many"]) fun _ _ _ _ _ _ us hl => match us, hl with | [_, _, _], _ => rfl
  have F6 := fun_mk (st := s_Row_ask_stretch) l6 c6 k6
  have b6 := F6.binds (ps := ["self", "first", "behind"]) fun _ _ _ _ _ _ us hl => match us, hl with | [_, _, _], _ => rfl
  have F7 := fun_mk (st := s_Row_set_at) l7 c7 k7
  have b7 := F7.binds (ps := ["self", "place", "number"]) fun _ _ _ _ _ _ us hl => match us, hl with | [_, _, _], _ => rfl
  have F8 := fun_mk (st := s_Row_take_out) l8 c8 k8
  have b8 := F8.binds (ps := ["self", "place"]) fun _ _ _ _ _ _ us hl => match us, hl with | [_, _], _ => rfl
  have F9 := fun_mk (st := s_Row_put_in) l9 c9 k9
  have b9 := F9.binds (ps := ["self", "place", "number"]) fun _ _ _ _ _ _ us hl => match us, hl with | [_, _, _], _ => rfl
  have F10 := fun_mk (st := s_Row_add_to) l10 c10 k10
  have b10 := F10.binds (ps := ["self", "first", "behind", "number"]) fun _ _ _ _ _ _ us hl => match us, hl with | [_, _, _, _], _ => rfl
  have F11 := fun_mk (st := s__law_cell_at) l11 c11 k11
  have b11 := F11.binds (ps := ["script", "k"]) fun _ _ _ _ _ _ us hl => match us, hl with | [_, _], _ => rfl
  have F12 := fun_mk (st := s__law_whole) l12 c12 k12
  have b12 := F12.binds (ps := ["found"]) fun _ _ _ _ _ _ us hl => match us, hl with | [_], _ => rfl
  have F13 := fun_mk (st := s__law_draw) l13 c13 k13
  have b13 := F13.binds (ps := ["cell", "k", "bound"]) fun _ _ _ _ _ _ us hl => match us, hl with | [_, _, _], _ => rfl
  have F14 := fun_mk (st := s__law_row) l14 c14 k14
  have b14 := F14.binds (ps := ["script", "at", "most"]) fun _ _ _ _ _ _ us hl => match us, hl with | [_, _, _], _ => rfl
  have F15 := fun_mk (st := s__law_right) l15 c15 k15
  have b15 := F15.binds (ps := ["row", "kept"]) fun _ _ _ _ _ _ us hl => match us, hl with | [_, _], _ => rfl
  have F16 := fun_mk (st := s__law_deed) l16 c16 k16
  have b16 := F16.binds (ps := ["row", "kept", "cell", "low"]) fun _ _ _ _ _ _ us hl => match us, hl with | [_, _, _, _], _ => rfl
  have F17 := fun_mk (st := s_law) l17 c17 k17
  have b17 := F17.binds (ps := ["script"]) fun _ _ _ _ _ _ us hl => match us, hl with | [_], _ => rfl
  refine ⟨PySem.W.fnOf "law" "law" (defArgs s_law) (defBody s_law) (defScope s_law) .none kV17 dc17 pm17 an17 cd17 ct17, fun s v => .of_eq rfl, fun base _ _ => ?_⟩
  have c_ask_sky : C8.Cal l.prog w K mg base 1 "ask_sky" (sp_ask_sky K C) [] := ⟨f1, _, ["numbers"], [], ok_ask_sky F1 T , PySem.W.mg_of X G a1, k1, b1, .nil⟩
  have c_Row_numbers : C8.Met l.prog w K mg base 1 C "numbers" (sp_Row_numbers K C) [] := ⟨f2, _, ["self"], [], T.cl, ⟨a2, i2, k2⟩, ok_Row_numbers F2 T , b2, .nil⟩
  have c_widest : C8.Cal l.prog w K mg base 2 "widest" (sp_widest K C) [] := ⟨f3, _, ["row"], [], ok_widest F3 T c_ask_sky c_Row_numbers, PySem.W.mg_of X G a3, k3, b3, .nil⟩
  have c_Row : C8.Mak l.prog w K mg base 1 "Row" C (sp_Row___init__ K C) [] := ⟨f4, _, ["self", "numbers"], [], ⟨mk, a4, i4, kc⟩, ok_Row___init__ F4 T , T.mgC, b4, .nil⟩
  have c_Row_ask : C8.Met l.prog w K mg base 1 C "ask" (sp_Row_ask K C) [] := ⟨f5, _, ["self", "place", "many"], [], T.cl, ⟨a5, i5, k5⟩, ok_Row_ask F5 T , b5, .nil⟩
  have c_Row_ask_stretch : C8.Met l.prog w K mg base 1 C "ask_stretch" (sp_Row_ask_stretch K C) [] := ⟨f6, _, ["self", "first", "behind"], [], T.cl, ⟨a6, i6, k6⟩, ok_Row_ask_stretch F6 T , b6, .nil⟩
  have c_Row_set_at : C8.Met l.prog w K mg base 2 C "set_at" (sp_Row_set_at K C) [] := ⟨f7, _, ["self", "place", "number"], [], T.cl, ⟨a7, i7, k7⟩, ok_Row_set_at F7 T c_Row_ask, b7, .nil⟩
  have c_Row_take_out : C8.Met l.prog w K mg base 2 C "take_out" (sp_Row_take_out K C) [] := ⟨f8, _, ["self", "place"], [], T.cl, ⟨a8, i8, k8⟩, ok_Row_take_out F8 T c_Row_ask, b8, .nil⟩
  have c_Row_put_in : C8.Met l.prog w K mg base 2 C "put_in" (sp_Row_put_in K C) [] := ⟨f9, _, ["self", "place", "number"], [], T.cl, ⟨a9, i9, k9⟩, ok_Row_put_in F9 T c_Row_ask, b9, .nil⟩
  have c_Row_add_to : C8.Met l.prog w K mg base 2 C "add_to" (sp_Row_add_to K C) [] := ⟨f10, _, ["self", "first", "behind", "number"], [], T.cl, ⟨a10, i10, k10⟩, ok_Row_add_to F10 T c_Row_ask_stretch, b10, .nil⟩
  have c__law_cell_at : C8.Cal l.prog w K mg base 1 "_law_cell_at" (sp__law_cell_at K C) [] := ⟨f11, _, ["script", "k"], [], ok__law_cell_at F11 T , PySem.W.mg_of X G a11, k11, b11, .nil⟩
  have c__law_whole : C8.Cal l.prog w K mg base 1 "_law_whole" (sp__law_whole K C) [] := ⟨f12, _, ["found"], [], ok__law_whole F12 T , PySem.W.mg_of X G a12, k12, b12, .nil⟩
  have c__law_draw : C8.Cal l.prog w K mg base 1 "_law_draw" (sp__law_draw K C) [] := ⟨f13, _, ["cell", "k", "bound"], [], ok__law_draw F13 T , PySem.W.mg_of X G a13, k13, b13, .nil⟩
  have c__law_row : C8.Cal l.prog w K mg base 2 "_law_row" (sp__law_row K C) [] := ⟨f14, _, ["script", "at", "most"], [], ok__law_row F14 T c__law_draw c__law_cell_at, PySem.W.mg_of X G a14, k14, b14, .nil⟩
  have c__law_right : C8.Cal l.prog w K mg base 3 "_law_right" (sp__law_right K C) [] := ⟨f15, _, ["row", "kept"], [], ok__law_right F15 T c_Row_numbers c__law_whole c_widest, PySem.W.mg_of X G a15, k15, b15, .nil⟩
  have c__law_deed : C8.Cal l.prog w K mg base 3 "_law_deed" (sp__law_deed K C) [] := ⟨f16, _, ["row", "kept", "cell", "low"], [], ok__law_deed F16 T c_Row_set_at c_Row_put_in c_Row_take_out c_Row_add_to, PySem.W.mg_of X G a16, k16, b16, .nil⟩
  have z := ok_law (P := l.prog) (w := w) (base := base) F17 T c__law_right c__law_deed c__law_cell_at c_Row c__law_row
  exact z
end VT
open PySem PySem.W PyProof.Rows
set_option maxRecDepth 100000 in
set_option maxHeartbeats 0 in
theorem PySem.Challenge.cw_valleytree_k12_widest_blocks_holds : PySem.Challenge.rw_valleytree_k12_widest_blocks.Holds := by
  w_on; o_law; k_head; (case hw => w_witness2)
  k_fill
  refine L2.walk_of (l := PySem.Challenge.rw_valleytree_k12_widest_blocks) (n := 63) (k := 4) (x := "script") (CX := fun _ => L2.CX0) (sp := fun w => VT.sp_law _ 0) rfl (by decide) rfl ⟨rfl, by decide, by decide⟩ (fun w h Y => PySem.W.kIn_of Y) ?F (fun _ _ a ns hl _ hS => VT.law_in hS hl) (fun _ _ _ _ _ h => h)
  case F =>
    intro w mg fa h KX G hmg
    refine' VT.all_mk KX G hmg ?aC ?pg ?hd ?po ?sa ?mk ?kc ?nK ?a1 ?l1 ?c1 ?k1 ?a2 ?i2 ?l2 ?c2 ?k2 ?a3 ?l3 ?c3 ?k3 ?a4 ?i4 ?l4 ?c4 ?k4 ?a5 ?i5 ?l5 ?c5 ?k5 ?a6 ?i6 ?l6 ?c6 ?k6 ?a7 ?i7 ?l7 ?c7 ?k7 ?a8 ?i8 ?l8 ?c8 ?k8 ?a9 ?i9 ?l9 ?c9 ?k9 ?a10 ?i10 ?l10 ?c10 ?k10 ?a11 ?l11 ?c11 ?k11 ?a12 ?l12 ?c12 ?k12 ?a13 ?l13 ?c13 ?k13 ?a14 ?l14 ?c14 ?k14 ?a15 ?l15 ?c15 ?k15 ?a16 ?l16 ?c16 ?k16 ?a17 ?l17 ?c17 ?k17 ?z_abs ?z_bool ?z_int ?z_isinstance ?z_len ?z_list ?z_min ?z_range ?z_tuple ?g_MOST
    (case aC => k_is)
    (case pg => k_is)
    (case hd => k_is)
    (case po => k_is)
    (case sa => k_is)
    (case mk => k_is)
    (case kc => k_is)
    (case nK => k_is)
    (case a1 => k_is)
    (case l1 => k_is)
    (case c1 => k_is)
    (case k1 => k_is)
    (case a2 => k_is)
    (case i2 => k_is)
    (case l2 => k_is)
    (case c2 => k_is)
    (case k2 => k_is)
    (case a3 => k_is)
    (case l3 => k_is)
    (case c3 => k_is)
    (case k3 => k_is)
    (case a4 => k_is)
    (case i4 => k_is)
    (case l4 => k_is)
    (case c4 => k_is)
    (case k4 => k_is)
    (case a5 => k_is)
    (case i5 => k_is)
    (case l5 => k_is)
    (case c5 => k_is)
    (case k5 => k_is)
    (case a6 => k_is)
    (case i6 => k_is)
    (case l6 => k_is)
    (case c6 => k_is)
    (case k6 => k_is)
    (case a7 => k_is)
    (case i7 => k_is)
    (case l7 => k_is)
    (case c7 => k_is)
    (case k7 => k_is)
    (case a8 => k_is)
    (case i8 => k_is)
    (case l8 => k_is)
    (case c8 => k_is)
    (case k8 => k_is)
    (case a9 => k_is)
    (case i9 => k_is)
    (case l9 => k_is)
    (case c9 => k_is)
    (case k9 => k_is)
    (case a10 => k_is)
    (case i10 => k_is)
    (case l10 => k_is)
    (case c10 => k_is)
    (case k10 => k_is)
    (case a11 => k_is)
    (case l11 => k_is)
    (case c11 => k_is)
    (case k11 => k_is)
    (case a12 => k_is)
    (case l12 => k_is)
    (case c12 => k_is)
    (case k12 => k_is)
    (case a13 => k_is)
    (case l13 => k_is)
    (case c13 => k_is)
    (case k13 => k_is)
    (case a14 => k_is)
    (case l14 => k_is)
    (case c14 => k_is)
    (case k14 => k_is)
    (case a15 => k_is)
    (case l15 => k_is)
    (case c15 => k_is)
    (case k15 => k_is)
    (case a16 => k_is)
    (case l16 => k_is)
    (case c16 => k_is)
    (case k16 => k_is)
    (case a17 => k_is)
    (case l17 => k_is)
    (case c17 => k_is)
    (case k17 => k_is)
    (case z_abs => k_is)
    (case z_bool => k_is)
    (case z_int => k_is)
    (case z_isinstance => k_is)
    (case z_len => k_is)
    (case z_list => k_is)
    (case z_min => k_is)
    (case z_range => k_is)
    (case z_tuple => k_is)
    (case g_MOST => k_is)
#print axioms PySem.Challenge.cw_valleytree_k12_widest_blocks_holds
