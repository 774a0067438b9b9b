import PyProof.Rows.All
import Wide.All
import OpenK.AllK
import Wide.FinOn
import HandS.ForMost
import HandS.Codes
import HandS.More
import HandS.Conv
import HandS.IsInst
import HandS.Wide
import HandS.SortInts
import HandS.RevRange
import HandS.Style
import PyProof.SeqIndex
import KE.DataMinMax
import KE.SortData
import HandS.Rev
import PySem.Challenge.RW_valleytree_k06_whole_leasts_by_the_tree
set_option Elab.async false
set_option linter.all false
set_option maxRecDepth 100000
set_option maxHeartbeats 4000000
/-! ### a layer of small steps over the hand layer -/
namespace VT
open PySem PySem.Spec PyProof.Rows L2
theorem same_new {H : Hp} {p : Addr} (h : H p = none) (o : HO) : Same H (upd H p o) := fun b u q => by
  rw [upd_ne (ne_of_none q h)]
  exact q
theorem same_mut {H H' : Hp} {p : Addr} {o : HO} (e : Same H H') (h : H p = none) : Same H (upd H' p o) := fun b u q => by
  rw [upd_ne (ne_of_none q h)]
  exact e b u q
theorem same_new2 {H H' : Hp} {p : Addr} {o : HO} (e : Same H H') (h : H' p = none) : Same H (upd H' p o) := e.trans (same_new h o)
/-- all but what stands at l is as it was -/
def But (l : Addr) (H H' : Hp) : Prop := ∀ b o, H b = some o → b ≠ l → H' b = some o
theorem But.of {l : Addr} {H H' : Hp} (e : Same H H') : But l H H' := fun b o q _ => e b o q
theorem But.up {l : Addr} {H H' : Hp} {o : HO} (e : But l H H') : But l H (upd H' l o) := fun b u q n => by
  rw [upd_ne n]
  exact e b u q n
theorem But.trans {l : Addr} {H H1 H2 : Hp} (a : But l H H1) (b : But l H1 H2) : But l H H2 := fun c o h n => b c o (a c o h n) n
theorem But.same {l : Addr} {H H' : Hp} (e : But l H H') (h : H l = none) : Same H H' := fun b o q => e b o q (ne_of_none q h)
theorem same_but {l : Addr} {H H1 H2 : Hp} (a : Same H H1) (b : But l H1 H2) (c : H l = none) : Same H H2 := fun p o q => b p o (a p o q) (ne_of_none q c)
theorem But.get {l b : Addr} {o : HO} {H H' : Hp} (e : But l H H') (n : b ≠ l) (h : H b = some o) : H' b = some o := e b o h n
theorem Same.get {b : Addr} {o : HO} {H H' : Hp} (e : Same H H') (h : H b = some o) : H' b = some o := e b o h
theorem up_get {b p : Addr} {o u : HO} {H : Hp} (n : b ≠ p) (h : H b = some o) : upd H p u b = some o := by
  rw [upd_ne n]
  exact h
theorem ne_new {H : Hp} {a b : Addr} {o : HO} (h' : H b = none) (h : H a = some o) : a ≠ b := ne_of_none h h'
theorem ne_new' {H : Hp} {a b : Addr} {o : HO} (h' : H b = none) (h : H a = some o) : b ≠ a := (ne_of_none h h').symm
theorem up_free {H : Hp} {a b : Addr} {o : HO} (n : a ≠ b) (h : H a = none) : upd H b o a = none := by
  rw [upd_ne n]
  exact h
theorem SqL.lst {K : PySem.W.Frag} {H : Hp} {a : Addr} {xs : List V} (h : H a = some (.lst xs)) : SqL K H a xs := .inl (.inl h)
theorem SqT.tup {K : PySem.W.Frag} {H : Hp} {a : Addr} {xs : List V} (h : H a = some (.tup xs)) : SqT K H a xs := .inl (.inl h)
theorem same_seqT {K : PySem.W.Frag} {H H' : Hp} {a : Addr} {xs : List V} (e : Same H H') (h : SqT K H a xs) : SqT K H' a xs := by
  rcases h with (h | ⟨o, h⟩) | h
  · exact .inl (.inl (e _ _ h))
  · exact .inl (.inr ⟨o, e _ _ h⟩)
  · exact .inr h
/-- a readable list is not at a place that is new -/
theorem But.seq {K : PySem.W.Frag} {H H' : Hp} {a l : Addr} {xs : List V} (e : But l H H') (n : a ≠ l) (h : SqL K H a xs) : SqL K H' a xs := by
  rcases h with (h | ⟨o, h⟩) | h
  · exact .inl (.inl (e _ _ h n))
  · exact .inl (.inr ⟨o, e _ _ h n⟩)
  · exact .inr h
theorem sz {n : Nat} (h : n ≤ 1000000) : n ≤ sizeLine := Nat.le_trans h (by decide)
theorem szl {n : Nat} (h : n ≤ 1000000) : n < sizeLine := Nat.lt_of_le_of_lt h (by decide)

/-! ### names for the rules' readings -/
def rLen (K : PySem.W.Frag) : List V → Hp → VK → Prop := fun xs H Q => ∃ p ys, xs = [.ref p] ∧ (SqL K H p ys ∨ SqT K H p ys) ∧ Q (.int ys.length) H
def rListOf (K : PySem.W.Frag) : List V → Hp → VK → Prop := fun xs H Q => ∃ p ys, xs = [.ref p] ∧ (SqL K H p ys ∨ SqT K H p ys) ∧ ∀ l, H l = none → Q (.ref l) (upd H l (.lst ys))
def rMin2 : List V → Hp → VK → Prop := fun xs H Q => ∃ i j, xs = [.int i, .int j] ∧ Q (.int (if j < i then j else i)) H
def rMax2 : List V → Hp → VK → Prop := fun xs H Q => ∃ i j, xs = [.int i, .int j] ∧ Q (.int (if j > i then j else i)) H
def rAbs : List V → Hp → VK → Prop := fun xs H Q => ∃ i, xs = [.int i] ∧ Q (.int (if i < 0 then -i else i)) H
def rIsN : R2 := fun x y H Q => y = .non ∧ Q (.bl (decide (x = .non))) H
def rNotN : R2 := fun x y H Q => y = .non ∧ Q (.bl (!decide (x = .non))) H
def rIns : V → List V → Hp → VK → Prop := fun x vs H Q => ∃ (l : Addr) (xs : List V) (i : Int) (y : V), x = .ref l ∧ vs = [.int i, y] ∧ H l = some (.lst xs) ∧ xs.length < sizeLine ∧ 0 ≤ i ∧ i < 2 ^ 63 ∧ Q .non (upd H l (.lst (xs.take i.toNat ++ [y] ++ xs.drop i.toNat)))
section
variable {X : Cx}
theorem c_len : CallR X (.builtin "len") (rLen X.K) := call_len_seq
theorem c_listOf : CallR X (.type "list") (rListOf X.K) := call_list_of
theorem c_min2 (hc : X.calm = true) : CallR X (.builtin "min") rMin2 := call_min2 hc
theorem c_max2 (hc : X.calm = true) : CallR X (.builtin "max") rMax2 := call_max2 hc
theorem c_abs : CallR X (.builtin "abs") rAbs := call_abs
theorem o_isN : OpR X (compareOp .Is) rIsN := op_isN
theorem o_notN : OpR X (compareOp .IsNot) rNotN := op_notN
/-- the rules at a written part that is told (within a comprehension) -/
theorem ixL {K : PySem.W.Frag} (h : X.K = K) : IxR X (rIxL K) := by
  subst h
  exact ix_list
theorem ixT {K : PySem.W.Frag} (h : X.K = K) : IxR X (rIxT K) := by
  subst h
  exact ix_tup
theorem inS {K : PySem.W.Frag} (h : X.K = K) : OpR X (compareOp .In) (rIn K false) := by
  subst h
  exact op_in_seq
theorem eqD {K : PySem.W.Frag} (h : X.K = K) (hu : X.A.units + 64 < cLine) : OpR X (compareOp .Eq) (rEqD K) := by
  subst h
  exact op_eqD hu
/-- xs.index(y, i), xs a list of numbers, y there at i or behind: the first such place -/
def rIndex3 (K : PySem.W.Frag) : V → List V → Hp → VK → Prop := fun x xs H Q => ∃ (a : Addr) (ns : List Int) (y i : Int) (j : Nat), x = .ref a ∧ xs = [.int y, .int i] ∧ SqL K H a (ns.map V.int) ∧ 0 ≤ i ∧ i.toNat ≤ j ∧ ns[j]? = some y ∧ (∀ m : Nat, i.toNat ≤ m → m < j → ns[m]? ≠ some y) ∧ Q (.int (j : Nat)) H
theorem mt_index3 : MtR X "list.index" (rIndex3 X.K) := by
  intro pins s σ H x xs v us Q I rx rxs h
  obtain ⟨a, ns, y, i, j, rfl, rfl, hs, i0, hij, hj, hno, q⟩ := h
  cases rx
  obtain ⟨u1, u2, rfl, r1, r2⟩ := vals2 rxs
  obtain ⟨t1, rfl⟩ := r1
  obtain ⟨t2, rfl⟩ := r2
  obtain ⟨its, rv, ⟨⟨cls, dd, data, sl⟩, n, ho, hc, hdn, hd⟩, hlen⟩ := I.list hs
  simp only at hc hd
  subst hc hd
  have hvl := rv.length
  rw [List.length_map] at hvl
  have hjl : j < ns.length := (List.getElem?_eq_some_iff.mp hj).1
  have hsl := sizeLine_eq
  have hlen' : (ns.map V.int).length ≤ sizeLine := by
    first
      | exact hlen
      | (rw [List.length_map]; rw [hvl]; exact hlen)
  rw [List.length_map, hsl] at hlen'
  have hsf : SeqAt.searchFrom i its.toArray.size = i.toNat := SeqAt.searchFrom_nonneg i0 _
  refine call_meets PySem.F.slot_list_index ⟨_, ho, rfl⟩ PySem.F.entry_list_index (PySem.F.args_list_index_3 _ _ _)
    (SeqAt.list_index3_found a its.toArray n dd sl (.int y t1) (fun m => decide (ns[m]? = some y)) i t2 j (by rw [List.size_toArray]; omega) (by rw [hsf]; exact hij) (by omega) (decide_eq_true hj) ?_) ⟨ho, fun m hm => ?_, ?_⟩
  · intro m hm h1 h2
    rw [hsf] at h1
    exact decide_eq_false (hno m h1 h2)
  · have hml : m < its.length := by simpa using hm
    have hmn : m < ns.length := by omega
    have hm' : (ns.map V.int)[m]? = some (V.int ns[m]) := by rw [List.getElem?_map, List.getElem?_eq_getElem hmn] <;> rfl
    obtain ⟨u2, hu2, ru2⟩ := rv.get hm'
    obtain ⟨hm1, hme⟩ := List.getElem?_eq_some_iff.mp hu2
    obtain ⟨tm, rfl⟩ := ru2
    have e1 : its.toArray[m] = .int ns[m] tm := by simpa using hme
    have hq := mem_eqAt (A := X.A.in1) (s := s) (x := V.int y) (v := .int y t1) ⟨t1, rfl⟩ rfl rv (by rw [List.all_map]; exact List.all_eq_true.mpr fun _ _ => rfl) its.toArray[m] (by simp)
    have e2 : eqU (V.int y) its.toArray[m] = decide (ns[m]? = some y) := by
      rw [e1, List.getElem?_eq_getElem hmn]
      show (ns[m] == y) = _
      by_cases h : ns[m] = y
      · rw [h, beq_self_eq_true, decide_eq_true rfl]
      · rw [beq_eq_false_iff_ne.mpr h, decide_eq_false (fun z => h (Option.some.inj z))]
    rw [e2] at hq
    exact hq
  · exact ⟨.int (j : Nat), H, I.tok _, ⟨_, rfl⟩, q⟩
/-- xs.count(y), flat items -/
def rCountV (K : PySem.W.Frag) : V → List V → Hp → VK → Prop := fun x xs H Q => ∃ (a : Addr) (ys : List V) (y : V), x = .ref a ∧ xs = [y] ∧ SqL K H a ys ∧ flatV y = true ∧ ys.all flatV = true ∧ Q (.int (ys.countP (fun z => eqV z y) : Nat)) H
theorem countP_rel {y : V} : ∀ {ys : List V} {its : List Value}, Vals ys its → ys.all flatV = true → its.countP (eqU y) = ys.countP (fun z => eqV z y)
  | _, _, .nil, _ => rfl
  | x :: ys, u :: us, .cons r t, f => by
    rw [List.all_cons, Bool.and_eq_true] at f
    rw [List.countP_cons, List.countP_cons, countP_rel t f.2, eqU_of r f.1]
theorem mt_countV : MtR X "list.count" (rCountV X.K) := by
  intro pins s σ H x xs v us Q I rx rxs h
  obtain ⟨a, ys, y, rfl, rfl, hs, fy, fys, q⟩ := h
  cases rx
  obtain ⟨u, rfl, ru⟩ := rxs.one
  obtain ⟨its, rv, ⟨⟨cls, dd, data, sl⟩, n, ho, hc, hdn, hd⟩, hlen⟩ := I.list hs
  simp only at hc hd
  subst hc hd
  refine call_meets PySem.F.slot_list_count ⟨_, ho, rfl⟩ PySem.F.entry_list_count (PySem.F.args_list_count_2 _ _)
    (SeqAt.list_countAt a its.toArray n dd sl u (eqU y)) ⟨ho, fun z hz => mem_eqAt ru fy rv fys z (by simpa using hz), ?_⟩
  have ec : its.toArray.toList.countP (eqU y) = ys.countP (fun z => eqV z y) := countP_rel rv fys
  refine ⟨.int (ys.countP (fun z => eqV z y) : Nat), H, I.tok _, ⟨s.toks, ?_⟩, q⟩
  show Value.int ((its.toArray.toList.countP (eqU y) : Nat) : Int) s.toks = Value.int ((ys.countP (fun z => eqV z y) : Nat) : Int) s.toks
  rw [ec]
/-- a op1 b op2 c op3 d -/
def tChain3 (r r' r2 : R2) (ta tb tc td : TE) : TE := fun σ H Q => ta σ H fun x H1 => tb σ H1 fun y H2 => r x y H2 fun z H3 => ∃ k, z = .bl k ∧
  (if k = true then tc σ H3 fun w' H4 => r' y w' H4 fun z' H5 => ∃ k', z' = .bl k' ∧ (if k' = true then td σ H5 fun w2 H6 => r2 w' w2 H6 Q else Q (.bl false) H5) else Q (.bl false) H3)
theorem pt_chain3 {op op' op2 : CmpOp} {r r' r2 : R2} {a b c d : Expr} {ta tb tc td : TE} {pos : Pos} (ho : OpR X (compareOp op) r) (ho' : OpR X (compareOp op') r') (ho2 : OpR X (compareOp op2) r2) (ha : PE X a ta) (hb : PE X b tb) (hc : PE X c tc) (hd : PE X d td)
    (hm : lastMarks [op, op', op2] [b, c, d] = false := by with_unfolding_all rfl) : PT X (.Compare a [op, op', op2] [b, c, d] pos) (tTest (tChain3 r r' r2 ta tb tc td)) := by
  refine ⟨fun pins s σ H Q I h => ?_⟩
  refine isTrue_chain (thn (ha.run pins s σ H _ I h) fun v s1 ⟨x, H1, I1, r1, q1⟩ => test_link (thn (hb.run pins s1 σ H1 _ I1 q1) fun u s2 ⟨y, H2, I2, rr2, q2⟩ =>
    thn (ho pins s2 σ H2 x y v u _ I2 r1 rr2 q2) fun e s3 ⟨z, H3, I3, r3, k, ez, q3⟩ => ?_)) hm
  subst ez
  cases r3
  refine wpAny_truthy_bool ?_
  cases k with
  | false =>
    obtain ⟨k', e', q'⟩ := q3
    cases e'
    exact ite_ff ⟨H3, I3, q'⟩
  | true =>
    refine ite_tt (test_link (thn (hc.run pins s3 σ H3 _ I3 q3) fun w' s4 ⟨z', H4, I4, r4, q4⟩ => thn (ho' pins s4 σ H4 y z' u w' _ I4 rr2 r4 q4) fun d' s5 ⟨z2, H5, I5, r5, k2, e2, q5⟩ => ?_))
    subst e2
    cases r5
    refine wpAny_truthy_bool ?_
    cases k2 with
    | false =>
      obtain ⟨k', e', q'⟩ := q5
      cases e'
      exact ite_ff ⟨H5, I5, q'⟩
    | true =>
      refine ite_tt (test_last (thn (hd.run pins s5 σ H5 _ I5 q5) fun w2 s6 ⟨z3, H6, I6, r6, q6⟩ => thn (ho2 pins s6 σ H6 z' z3 w' w2 _ I6 r4 r6 q6) fun d2 s7 ⟨z4, H7, I7, r7, k3, e3, q7⟩ => ?_))
      subst e3
      cases r7
      exact wpAny_truthy_bool ⟨H7, I7, q7⟩
theorem m_insert : MtR X "list.insert" rIns := mt_insert
end
section
variable {σ : L2.St} {H : Hp} {Q : VK} {D : Ends} {ta tb tc te : TE} {t u : TS} {tt tu : TT} {K : PySem.W.Frag}
variable {nx bk ct : L2.St → Hp → Prop} {rt : VK}
theorem r_seq (h : t ⟨u ⟨nx, rt, bk, ct⟩, rt, bk, ct⟩ σ H) : tSeq t u ⟨nx, rt, bk, ct⟩ σ H := h
theorem r_cut (M : L2.St → Hp → Prop) (h : t ⟨M, rt, bk, ct⟩ σ H) (k : ∀ σ' H', M σ' H' → u ⟨nx, rt, bk, ct⟩ σ' H') : C8.tCut t u ⟨nx, rt, bk, ct⟩ σ H := ⟨M, h, k⟩
theorem r_next (h : nx σ H) : tNext ⟨nx, rt, bk, ct⟩ σ H := h
theorem r_asg {g : TG} (h : te σ H fun x H1 => g x σ H1 nx) : tAsg te g ⟨nx, rt, bk, ct⟩ σ H := h
theorem r_name {i : Nat} {v : V} {N : L2.St → Hp → Prop} (h : N (σ.set i (some v)) H) : gName i v σ H N := h
theorem r_sub {to ti : TE} {g : V → V → V → Hp → (Hp → Prop) → Prop} {v : V} {N : L2.St → Hp → Prop} (h : to σ H fun o H1 => ti σ H1 fun i H2 => g o i v H2 fun H3 => N σ H3) : gSub to ti g v σ H N := h
theorem r_drop (h : te σ H fun _ H1 => nx σ H1) : tDrop te ⟨nx, rt, bk, ct⟩ σ H := h
theorem r_ret (h : te σ H rt) : tRet te ⟨nx, rt, bk, ct⟩ σ H := h
theorem r_retN (h : rt .non H) : tRetN ⟨nx, rt, bk, ct⟩ σ H := h
theorem r_if {tc : TT} (h : tc σ H fun b H1 => if b = true then t ⟨nx, rt, bk, ct⟩ σ H1 else u ⟨nx, rt, bk, ct⟩ σ H1) : tIfS tc t u ⟨nx, rt, bk, ct⟩ σ H := h
theorem r_var {i : Nat} {v : V} (h : σ[i]? = some (some v)) (q : Q v H) : tVar i σ H Q := ⟨v, h, q⟩
theorem r_c {v : V} (q : Q v H) : tC v σ H Q := q
theorem r_op {r : R2} (h : ta σ H fun x H1 => tb σ H1 fun y H2 => r x y H2 Q) : tOp r ta tb σ H Q := h
theorem r_un {r : V → Hp → VK → Prop} (h : ta σ H fun x H1 => r x H1 Q) : tUn r ta σ H Q := h
theorem r_chain {r r' : R2} (h : ta σ H fun x H1 => tb σ H1 fun y H2 => r x y H2 fun z H3 => ∃ k, z = .bl k ∧ (if k = true then tc σ H3 fun w' H4 => r' y w' H4 Q else Q (.bl false) H3)) : tChain r r' ta tb tc σ H Q := h
theorem r_chain3 {r r' r2 : R2} {td : TE} (h : ta σ H fun x H1 => tb σ H1 fun y H2 => r x y H2 fun z H3 => ∃ k, z = .bl k ∧
  (if k = true then tc σ H3 fun w' H4 => r' y w' H4 fun z' H5 => ∃ k', z' = .bl k' ∧ (if k' = true then td σ H5 fun w2 H6 => r2 w' w2 H6 Q else Q (.bl false) H5) else Q (.bl false) H3)) : tChain3 r r' r2 ta tb tc td σ H Q := h
theorem r_sFld {f : Str} (h : te σ H fun y H1 => ta σ H1 fun x H2 => ∃ a C dx fs, x = .ref a ∧ H2 a = some (.ins C dx fs) ∧ Cls K C ∧ NoAttr K C f ∧ fs.length < 1000 ∧ nx σ (upd H2 a (.ins C dx (putF f y fs)))) : sFld K ta te f ⟨nx, rt, bk, ct⟩ σ H := h
theorem r_test {N : Bool → Hp → Prop} (h : te σ H fun x H' => ∃ k, x = .bl k ∧ N k H') : tTest te σ H N := h
theorem r_B {N : Bool → Hp → Prop} (h : te σ H fun x H' => ∃ k, x = .bl k ∧ N k H') : tB te σ H N := h
theorem r_bl {b : Bool} {N : Bool → Prop} (h : N b) : ∃ k, V.bl b = V.bl k ∧ N k := ⟨b, rfl, h⟩
theorem r_not {N : Bool → Hp → Prop} (h : tt σ H fun c H1 => N (!c) H1) : tNot tt σ H N := h
theorem r_and {N : Bool → Hp → Prop} (h : tt σ H fun c H1 => if c = true then tu σ H1 N else N false H1) : tAnd tt tu σ H N := h
theorem r_or {N : Bool → Hp → Prop} (h : tt σ H fun c H1 => if c = true then N true H1 else tu σ H1 N) : tOr tt tu σ H N := h
theorem r_andV (h : ta σ H fun x H1 => ∃ c, x = .bl c ∧ if c = true then tb σ H1 Q else Q (.bl false) H1) : tAndV ta tb σ H Q := h
theorem r_orV (h : ta σ H fun x H1 => ∃ c, x = .bl c ∧ if c = true then Q (.bl true) H1 else tb σ H1 Q) : tOrV ta tb σ H Q := h
theorem r_notV (h : ta σ H fun x H1 => ∃ c, x = .bl c ∧ Q (.bl (!c)) H1) : tNotV ta σ H Q := h
theorem r_ifE {c : TT} (h : c σ H fun b H1 => if b = true then ta σ H1 Q else tb σ H1 Q) : tIf c ta tb σ H Q := h
theorem r_cons {tr : TA} {N : List V → Hp → Prop} (h : ta σ H fun x H1 => tr σ H1 fun xs H2 => N (x :: xs) H2) : tCons ta tr σ H N := h
theorem r_nil {N : List V → Hp → Prop} (h : N [] H) : tNil σ H N := h
theorem r_lst {tr : TA} (h : tr σ H fun xs H1 => xs.length ≤ sizeLine ∧ ∀ p, H1 p = none → Q (.ref p) (upd H1 p (.lst xs))) : tLst tr σ H Q := h
theorem r_tup {tr : TA} (h : tr σ H fun xs H1 => xs.length ≤ sizeLine ∧ ∀ p, H1 p = none → Q (.ref p) (upd H1 p (.tup xs))) : tTup tr σ H Q := h
theorem r_CB {tr : TA} {r : List V → Hp → VK → Prop} (h : tr σ H fun vs H1 => r vs H1 Q) : tCB r tr σ H Q := h
theorem r_call {tr : TA} {sp : Sp} {dvs : List V} {E : XK} (h : tr σ H fun vs H1 => sp (vs ++ dvs) H1 Q E) : tCall sp dvs E tr σ H Q := h
theorem r_sl {r : V → Option Int → Option Int → Hp → VK → Prop} {tl th : TO} (h : te σ H fun x H1 => tl σ H1 fun lo H2 => th σ H2 fun hi H3 => r x lo hi H3 Q) : tSl r te tl th σ H Q := h
theorem r_part {N : Option Int → Hp → Prop} (h : te σ H fun x H1 => ∃ i, x = .int i ∧ N (some i) H1) : tPart te σ H N := h
theorem r_int {i : Int} {N : Int → Prop} (h : N i) : ∃ k, V.int i = V.int k ∧ N k := ⟨i, rfl, h⟩
theorem r_noPart {N : Option Int → Hp → Prop} (h : N none H) : tNoPart σ H N := h
theorem r_bm {T : String} {r : V → List V → Hp → VK → Prop} {tr : TA} (h : te σ H fun x H1 => tyV K T x H1 ∧ tr σ H1 fun xs H2 => r x xs H2 Q) : tBM K T r te tr σ H Q := h
theorem r_bm0 {T : String} {r : V → List V → Hp → VK → Prop} (h : te σ H fun x H1 => tyV K T x H1 ∧ r x [] H1 Q) : tBM0 K T r te σ H Q := h
theorem r_fld {f : Str} (h : ta σ H fun x H1 => ∃ a C dx fs v, x = .ref a ∧ H1 a = some (.ins C dx fs) ∧ Cls K C ∧ NoAttr K C f ∧ fs.lookup f = some v ∧ Q v H1) : tFld K ta f σ H Q := h
theorem r_I0 {g : Int → Int → V} {i j : Int} (h : Q (g i j) H) : rI0 g (.int i) (.int j) H Q := ⟨i, j, rfl, rfl, h⟩
theorem r_I {C : Int → Int → Prop} {g : Int → Int → V} {i j : Int} (hc : C i j) (h : Q (g i j) H) : rI C g (.int i) (.int j) H Q := ⟨i, j, rfl, rfl, hc, h⟩
theorem r_U {g : Int → V} {i : Int} (h : Q (g i) H) : rU g (.int i) H Q := ⟨i, rfl, h⟩
/-- a Row: its attributes, where it stands -/
def rowF (l : Addr) : List (Str × V) := [("kept", .ref l)]
def RowOb (C : Addr) (H : Hp) (p l : Addr) : Prop := ∃ dx, H p = some (.ins C dx (rowF l))
theorem r_meth {C : Addr} {m : Str} {sp : Sp} {dvs : List V} {E : XK} {tr : TA} (h : ta σ H fun x H1 => ∃ a dx fs, x = .ref a ∧ H1 a = some (.ins C dx fs) ∧ fs.lookup m = none ∧ tr σ H1 fun vs H2 => sp (x :: (vs ++ dvs)) H2 Q E) : tMeth C m sp dvs E ta tr σ H Q := h
theorem r_make {C : Addr} {sp : Sp} {dvs : List V} {E : XK} {tr : TA} (h : tr σ H fun vs H1 => ∀ x dx, H1 x = none → H1 dx = none → dx ≠ x → sp (.ref x :: (vs ++ dvs)) (upd (upd H1 dx (.own x)) x (.ins C dx [])) (fun v H2 => v = .non ∧ Q (.ref x) H2) E) : tMake C sp dvs E tr σ H Q := h
theorem rowF_kept (l : Addr) : (rowF l).lookup ("kept" : Str) = some (.ref l) := by
  unfold rowF
  rw [List.lookup_cons]
  simp
theorem rowF_no (l : Addr) {m : Str} (h : ¬ m = "kept") : (rowF l).lookup m = none := by
  unfold rowF
  rw [List.lookup_cons]
  have e : (m == ("kept" : Str)) = false := by simpa using h
  rw [e]
  rfl
theorem r_fldR {p l C dx : Addr} (h : H p = some (.ins C dx (rowF l))) (c : Cls K C) (n : NoAttr K C "kept") {N : V → Prop} (q : N (.ref l)) : ∃ a C dx fs v, V.ref p = .ref a ∧ H a = some (.ins C dx fs) ∧ Cls K C ∧ NoAttr K C "kept" ∧ fs.lookup ("kept" : Str) = some v ∧ N v := ⟨p, C, dx, rowF l, _, rfl, h, c, n, rowF_kept l, q⟩
theorem r_methR {p l C dx : Addr} {m : Str} {N : Prop} (h : H p = some (.ins C dx (rowF l))) (hm : ¬ m = "kept") (q : N) : ∃ a dx fs, V.ref p = .ref a ∧ H a = some (.ins C dx fs) ∧ fs.lookup m = none ∧ N := ⟨p, dx, rowF l, rfl, h, rowF_no l hm, q⟩
theorem r_new {n : Nat} {N : Addr → Prop} (z : n ≤ 1000000) (q : ∀ p, H p = none → N p) : n ≤ sizeLine ∧ ∀ p, H p = none → N p := ⟨sz z, q⟩
theorem dec_int {i j : Int} : decide (V.int i = V.int j) = decide (i = j) := by
  by_cases h : i = j
  · rw [h, decide_eq_true rfl, decide_eq_true rfl]
  · rw [decide_eq_false h, decide_eq_false (fun e => h (V.int.inj e))]
theorem dec_bl {i j : Bool} : decide (V.bl i = V.bl j) = decide (i = j) := by
  by_cases h : i = j
  · rw [h, decide_eq_true rfl, decide_eq_true rfl]
  · rw [decide_eq_false h, decide_eq_false (fun e => h (V.bl.inj e))]
theorem r_eqI {i j : Int} (h : Q (.bl (decide (i = j))) H) : rEq (.int i) (.int j) H Q := ⟨rfl, by rw [dec_int]; exact h⟩
theorem r_neI {i j : Int} (h : Q (.bl (!decide (i = j))) H) : rNe (.int i) (.int j) H Q := ⟨rfl, by rw [dec_int]; exact h⟩
theorem r_eqB {i j : Bool} (h : Q (.bl (decide (i = j))) H) : rEq (.bl i) (.bl j) H Q := ⟨rfl, by rw [dec_bl]; exact h⟩
theorem r_neB {i j : Bool} (h : Q (.bl (!decide (i = j))) H) : rNe (.bl i) (.bl j) H Q := ⟨rfl, by rw [dec_bl]; exact h⟩
theorem r_isN {x : V} (h : Q (.bl (decide (x = .non))) H) : rIsN x .non H Q := ⟨rfl, h⟩
theorem r_notN {x : V} (h : Q (.bl (!decide (x = .non))) H) : rNotN x .non H Q := ⟨rfl, h⟩
/-- branches -/
theorem br {b : Bool} {A B : Prop} (h1 : b = true → A) (h2 : b = false → B) : if b = true then A else B := by
  cases b with
  | true => exact iteT (h1 rfl)
  | false => exact iteF (h2 rfl)
theorem brD {p : Prop} [Decidable p] {A B : Prop} (h1 : p → A) (h2 : ¬ p → B) : if decide p = true then A else B := by
  by_cases h : p
  · rw [if_pos (decide_eq_true h)]
    exact h1 h
  · rw [if_neg (by rw [decide_eq_false h]; exact Bool.false_ne_true)]
    exact h2 h
theorem brN {p : Prop} [Decidable p] {A B : Prop} (h1 : ¬ p → A) (h2 : p → B) : if (!decide p) = true then A else B := by
  by_cases h : p
  · rw [if_neg (by rw [decide_eq_true h]; exact Bool.false_ne_true)]
    exact h2 h
  · rw [if_pos (by rw [decide_eq_false h]; rfl)]
    exact h1 h
theorem brT {p : Prop} [Decidable p] {A B : Prop} (h : p) (h1 : A) : if decide p = true then A else B := brD (fun _ => h1) (fun n => absurd h n)
theorem brF {p : Prop} [Decidable p] {A B : Prop} (h : ¬ p) (h1 : B) : if decide p = true then A else B := brD (fun n => absurd n h) (fun _ => h1)
theorem brNT {p : Prop} [Decidable p] {A B : Prop} (h : ¬ p) (h1 : A) : if (!decide p) = true then A else B := brN (fun _ => h1) (fun n => absurd n h)
theorem brNF {p : Prop} [Decidable p] {A B : Prop} (h : p) (h1 : B) : if (!decide p) = true then A else B := brN (fun n => absurd h n) (fun _ => h1)
/-- and, or of two tests that leave the heap: one answer -/
theorem r_andD {p q : Bool} {N : Bool → Hp → Prop} (h1 : ∀ Z : Bool → Hp → Prop, Z p H → tt σ H Z) (h2 : ∀ Z : Bool → Hp → Prop, Z q H → tu σ H Z) (h : N (p && q) H) : tAnd tt tu σ H N := by
  refine h1 _ ?_
  cases p with
  | true => exact iteT (h2 _ h)
  | false => exact iteF h
theorem r_orD {p q : Bool} {N : Bool → Hp → Prop} (h1 : ∀ Z : Bool → Hp → Prop, Z p H → tt σ H Z) (h2 : ∀ Z : Bool → Hp → Prop, Z q H → tu σ H Z) (h : N (p || q) H) : tOr tt tu σ H N := by
  refine h1 _ ?_
  cases p with
  | true => exact iteT h
  | false => exact iteF (h2 _ h)
theorem brA {p q : Prop} [Decidable p] [Decidable q] {A B : Prop} (h1 : p → q → A) (h2 : ¬ (p ∧ q) → B) : if (decide p && decide q) = true then A else B := by
  by_cases hp : p
  · by_cases hq : q
    · rw [decide_eq_true hp, decide_eq_true hq]
      exact iteT (h1 hp hq)
    · rw [decide_eq_false hq, Bool.and_false]
      exact iteF (h2 fun z => hq z.2)
  · rw [decide_eq_false hp, Bool.false_and]
    exact iteF (h2 fun z => hp z.1)
theorem brO {p q : Prop} [Decidable p] [Decidable q] {A B : Prop} (h1 : p ∨ q → A) (h2 : ¬ p → ¬ q → B) : if (decide p || decide q) = true then A else B := by
  by_cases hp : p
  · rw [decide_eq_true hp, Bool.true_or]
    exact iteT (h1 (.inl hp))
  · by_cases hq : q
    · rw [decide_eq_true hq, Bool.or_true]
      exact iteT (h1 (.inr hq))
    · rw [decide_eq_false hp, decide_eq_false hq]
      exact iteF (h2 hp hq)
theorem r_len {p : Addr} {ys : List V} (h : SqL K H p ys) (q : Q (.int (ys.length : Int)) H) : rLen K [.ref p] H Q := ⟨p, ys, rfl, .inl h, q⟩
theorem r_lenI {p : Addr} {ns : List Int} (h : SqL K H p (ns.map V.int)) (q : Q (.int (ns.length : Int)) H) : rLen K [.ref p] H Q := ⟨p, _, rfl, .inl h, by rw [List.length_map]; exact q⟩
theorem r_lenT {p : Addr} {ys : List V} (h : SqT K H p ys) (q : Q (.int (ys.length : Int)) H) : rLen K [.ref p] H Q := ⟨p, ys, rfl, .inr h, q⟩
theorem r_listOf {p : Addr} {ys : List V} (h : SqL K H p ys) (q : ∀ l, H l = none → Q (.ref l) (upd H l (.lst ys))) : rListOf K [.ref p] H Q := ⟨p, ys, rfl, .inl h, q⟩
theorem r_index3 {a : Addr} {ns : List Int} {y i : Int} {j : Nat} (h : SqL K H a (ns.map V.int)) (h0 : 0 ≤ i) (h1 : i.toNat ≤ j) (hj : ns[j]? = some y) (hn : ∀ m : Nat, i.toNat ≤ m → m < j → ns[m]? ≠ some y) (q : Q (.int (j : Nat)) H) : rIndex3 K (.ref a) [.int y, .int i] H Q := ⟨a, ns, y, i, j, rfl, rfl, h, h0, h1, hj, hn, q⟩
theorem r_min {a : Addr} {ns : List Int} (h : SqL K H a (ns.map V.int)) (hn : 0 < ns.length) (q : ∀ m, m ∈ ns → (∀ x, x ∈ ns → m ≤ x) → Q (.int m) H) : rMin K [.ref a] H Q := ⟨a, ns, rfl, h, hn, q⟩
theorem r_max {a : Addr} {ns : List Int} (h : SqL K H a (ns.map V.int)) (hn : 0 < ns.length) (q : ∀ m, m ∈ ns → (∀ x, x ∈ ns → x ≤ m) → Q (.int m) H) : rMax K [.ref a] H Q := ⟨a, ns, rfl, h, hn, q⟩
theorem r_sum {a : Addr} {ns : List Int} (h : SqL K H a (ns.map V.int)) (q : Q (.int ns.sum) H) : rSum K [.ref a] H Q := ⟨a, ns, rfl, h, q⟩
theorem r_min2 {i j : Int} (q : Q (.int (if j < i then j else i)) H) : rMin2 [.int i, .int j] H Q := ⟨i, j, rfl, q⟩
theorem r_max2 {i j : Int} (q : Q (.int (if j > i then j else i)) H) : rMax2 [.int i, .int j] H Q := ⟨i, j, rfl, q⟩
theorem r_abs {i : Int} (q : Q (.int (if i < 0 then -i else i)) H) : rAbs [.int i] H Q := ⟨i, rfl, q⟩
theorem r_ixL {p : Addr} {xs : List V} {i : Int} {v : V} (h : SqL K H p xs) (ha : atI xs i = some v) (q : Q v H) : rIxL K (.ref p) (.int i) H Q := ⟨p, xs, i, v, rfl, rfl, h, ha, q⟩
theorem r_ixT {p : Addr} {xs : List V} {i : Int} {v : V} (h : SqT K H p xs) (ha : atI xs i = some v) (q : Q v H) : rIxT K (.ref p) (.int i) H Q := ⟨p, xs, i, v, rfl, rfl, h, ha, q⟩
theorem r_slL {p : Addr} {xs : List V} {lo hi : Option Int} (h : SqL K H p xs) (q : ∀ l, H l = none → Q (.ref l) (upd H l (.lst (cutV xs lo hi)))) : rSlL K (.ref p) lo hi H Q := ⟨p, xs, rfl, h, q⟩
theorem r_cat {l b : Addr} {xs zs : List V} (h : H l = some (.lst xs)) (h' : H b = some (.lst zs)) (z : xs.length + zs.length ≤ 1000000) (q : ∀ p, H p = none → Q (.ref p) (upd H p (.lst (xs ++ zs)))) : rCat (.ref l) (.ref b) H Q := ⟨l, b, xs, zs, rfl, rfl, h, h', sz z, q⟩
theorem r_app {l : Addr} {xs : List V} {v : V} (h : H l = some (.lst xs)) (z : xs.length ≤ 1000000) (q : Q .non (upd H l (.lst (xs ++ [v])))) : rAppend (.ref l) [v] H Q := ⟨l, xs, v, rfl, rfl, h, szl z, q⟩
theorem r_tyL {p : Addr} {xs : List V} {N : Prop} (h : SqL K H p xs) (q : N) : tyV K "list" (.ref p) H ∧ N := ⟨.inl ⟨rfl, xs, h⟩, q⟩
theorem r_ins {l : Addr} {xs : List V} {i : Int} {y : V} (h : H l = some (.lst xs)) (z : xs.length ≤ 1000000) (i0 : 0 ≤ i) (i1 : i ≤ 1000000) (q : Q .non (upd H l (.lst (xs.take i.toNat ++ [y] ++ xs.drop i.toNat)))) : rIns (.ref l) [.int i, y] H Q := ⟨l, xs, i, y, rfl, rfl, h, szl z, i0, Int.lt_of_le_of_lt i1 (by decide), q⟩
theorem map_erase (ns : List Int) (k : Nat) : (ns.map V.int).eraseIdx k = (ns.eraseIdx k).map V.int := by
  induction ns generalizing k with
  | nil => rfl
  | cons a r ih =>
    cases k with
    | zero => rfl
    | succ k =>
      show V.int a :: (r.map V.int).eraseIdx k = V.int a :: (r.eraseIdx k).map V.int
      rw [ih]
theorem seq_ix {n : Nat} {i : Int} (h0 : 0 ≤ i) (h1 : i < (n : Int)) : seqIndex? i n = some i.toNat := by
  have e : ixN n i = some i.toNat := by
    unfold ixN
    rw [if_pos h0, if_pos h1]
  exact (ixN_seq e).1
theorem snoc_int (ns : List Int) (x : Int) : ns.map V.int ++ [V.int x] = (ns ++ [x]).map V.int := by
  rw [List.map_append]
  rfl
theorem r_popAt {l : Addr} {ns : List Int} {i z : Int} (h : H l = some (.lst (ns.map V.int))) (h0 : 0 ≤ i) (h1 : i < 1000000) (hz : ns[i.toNat]? = some z) (q : Q (.int z) (upd H l (.lst ((ns.eraseIdx i.toNat).map V.int)))) : rPopAt (.ref l) [.int i] H Q := by
  have hi : i.toNat < ns.length := (List.getElem?_eq_some_iff.mp hz).1
  refine ⟨l, ns.map V.int, i, i.toNat, .int z, rfl, rfl, h, by omega, by omega, ?_, ?_, ?_⟩
  · rw [List.length_map]
    exact seq_ix h0 (by omega)
  · rw [List.getElem?_map, hz] <;> rfl
  · rw [map_erase]
    exact q
theorem sIx_int {n d : Nat} {i : Int} (h0 : 0 ≤ i) (h1 : i ≤ (n : Int)) : HT.sIx n d (some i) = i.toNat := by
  have e : i = ((i.toNat : Nat) : Int) := by omega
  rw [e, HT.sIx_nat, Int.toNat_natCast]
  omega
theorem cut_take {xs : List V} {i : Int} (h0 : 0 ≤ i) (h1 : i ≤ (xs.length : Int)) : cutV xs none (some i) = xs.take i.toNat := by
  unfold cutV
  rw [sIx_int h0 h1, HT.sIx_none, List.drop_zero, Nat.sub_zero]
theorem cut_drop {xs : List V} {i : Int} (h0 : 0 ≤ i) (h1 : i ≤ (xs.length : Int)) : cutV xs (some i) none = xs.drop i.toNat := by
  unfold cutV
  rw [sIx_int h0 h1, HT.sIx_none]
  exact List.take_of_length_le (by rw [List.length_drop]; exact Nat.le_refl _)
theorem cut_mid {xs : List V} {i j : Int} (h0 : 0 ≤ i) (h1 : i ≤ (xs.length : Int)) (h2 : 0 ≤ j) (h3 : j ≤ (xs.length : Int)) : cutV xs (some i) (some j) = (xs.drop i.toNat).take (j.toNat - i.toNat) := by
  unfold cutV
  rw [sIx_int h0 h1, sIx_int h2 h3]
theorem cut_takeI {ns : List Int} {i : Int} (h0 : 0 ≤ i) (h1 : i ≤ (ns.length : Int)) : cutV (ns.map V.int) none (some i) = (ns.take i.toNat).map V.int := by
  rw [cut_take h0 (by rw [List.length_map]; exact h1), List.map_take]
theorem cut_dropI {ns : List Int} {i : Int} (h0 : 0 ≤ i) (h1 : i ≤ (ns.length : Int)) : cutV (ns.map V.int) (some i) none = (ns.drop i.toNat).map V.int := by
  rw [cut_drop h0 (by rw [List.length_map]; exact h1), List.map_drop]
theorem cut_midI {ns : List Int} {i j : Int} (h0 : 0 ≤ i) (h1 : i ≤ (ns.length : Int)) (h2 : 0 ≤ j) (h3 : j ≤ (ns.length : Int)) : cutV (ns.map V.int) (some i) (some j) = ((ns.drop i.toNat).take (j.toNat - i.toNat)).map V.int := by
  rw [cut_mid h0 (by rw [List.length_map]; exact h1) h2 (by rw [List.length_map]; exact h3), List.map_take, List.map_drop]
theorem cut_int (ns : List Int) (lo hi : Option Int) : ∃ ms : List Int, cutV (ns.map V.int) lo hi = ms.map V.int ∧ ms.length ≤ ns.length := by
  refine ⟨(ns.drop (HT.sIx ns.length 0 lo)).take (HT.sIx ns.length ns.length hi - HT.sIx ns.length 0 lo), ?_, ?_⟩
  · unfold cutV
    rw [List.length_map, List.map_take, List.map_drop]
  · rw [List.length_take, List.length_drop]
    omega
theorem same_made {H H' : Hp} {x dx C : Addr} (nx : H x = none) (nd : H dx = none) (k : But x (upd (upd H dx (.own x)) x (.ins C dx [])) H') : Same H H' := fun b o e =>
  k b o (by rw [upd_ne (ne_of_none e nx), upd_ne (ne_of_none e nd)]; exact e) (ne_of_none e nx)
theorem r_at {xs : List V} {j : Nat} {v : V} {i : Int} (e : i = (j : Int)) (h : xs[j]? = some v) : atI xs i = some v := by
  rw [e]
  exact atI_nat h
/-- comparison of data -/
def pdV : V → PyData
  | .bl b => .bool b
  | .int i => .int i
  | _ => .none
def okV : V → Bool
  | .non => true
  | .int _ => true
  | _ => false
theorem okV_eqv : ∀ {x y : V}, okV x = true → okV y = true → PyData.eqv (pdV x) (pdV y) = decide (x = y)
  | .non, .non, _, _ => by rw [decide_eq_true rfl] <;> rfl
  | .non, .int j, _, _ => by rw [decide_eq_false (by intro h; cases h)] <;> rfl
  | .int i, .non, _, _ => by rw [decide_eq_false (by intro h; cases h)] <;> rfl
  | .int i, .int j, _, _ => by rw [dec_int] <;> rfl
theorem eqv_flat : ∀ {xs ys : List V}, xs.all okV = true → ys.all okV = true → PyData.eqvAll (xs.map pdV) (ys.map pdV) = decide (xs = ys)
  | [], [], _, _ => by rw [decide_eq_true rfl] <;> rfl
  | [], y :: ys, _, _ => by rw [decide_eq_false (by intro h; cases h)] <;> rfl
  | x :: xs, [], _, _ => by rw [decide_eq_false (by intro h; cases h)] <;> rfl
  | x :: xs, y :: ys, h1, h2 => by
    rw [List.all_cons, Bool.and_eq_true] at h1 h2
    have ih := eqv_flat (xs := xs) (ys := ys) h1.2 h2.2
    have e1 := okV_eqv h1.1 h2.1
    show (PyData.eqv (pdV x) (pdV y) && PyData.eqvAll (xs.map pdV) (ys.map pdV)) = _
    rw [ih, e1]
    by_cases a : x = y
    · by_cases b : xs = ys
      · rw [a, b]
        simp
      · rw [decide_eq_false b, Bool.and_false, decide_eq_false (by intro h; cases h; exact b rfl)]
    · rw [decide_eq_false a, Bool.false_and, decide_eq_false (by intro h; cases h; exact a rfl)]
theorem dpAll_flat {H : Hp} : ∀ {xs : List V}, xs.all okV = true → DpAll K H xs (xs.map pdV)
  | [], _ => .nil
  | .non :: xs, h => .cons .non (dpAll_flat (by rw [List.all_cons, Bool.and_eq_true] at h; exact h.2))
  | .int i :: xs, h => .cons (.int i) (dpAll_flat (by rw [List.all_cons, Bool.and_eq_true] at h; exact h.2))
theorem lay_flat : ∀ {xs : List V}, xs.all okV = true → PyData.canLayAll0 (xs.map pdV) = true ∧ PyData.depthAll (xs.map pdV) = 0
  | [], _ => ⟨rfl, rfl⟩
  | .non :: xs, h => by
    have ih := lay_flat (xs := xs) (by rw [List.all_cons, Bool.and_eq_true] at h; exact h.2)
    exact ⟨by show (true && PyData.canLayAll0 (xs.map pdV)) = true; rw [ih.1] <;> rfl, by show max 0 (PyData.depthAll (xs.map pdV)) = 0; rw [ih.2] <;> rfl⟩
  | .int i :: xs, h => by
    have ih := lay_flat (xs := xs) (by rw [List.all_cons, Bool.and_eq_true] at h; exact h.2)
    exact ⟨by show (true && PyData.canLayAll0 (xs.map pdV)) = true; rw [ih.1] <;> rfl, by show max 0 (PyData.depthAll (xs.map pdV)) = 0; rw [ih.2] <;> rfl⟩
theorem shaped_flat {xs : List V} (h : xs.all okV = true) : SeqAt.shaped (.list (xs.map pdV)) = true := by
  obtain ⟨a, b⟩ := lay_flat h
  show (PyData.canLayAll0 (xs.map pdV) && decide (PyData.depthAll (xs.map pdV) + 1 ≤ 64)) = true
  rw [a, b]
  rfl
theorem shaped_flatT {xs : List V} (h : xs.all okV = true) : SeqAt.shaped (.tuple (xs.map pdV)) = true := by
  obtain ⟨a, b⟩ := lay_flat h
  show (PyData.canLayAll0 (xs.map pdV) && decide (PyData.depthAll (xs.map pdV) + 1 ≤ 64)) = true
  rw [a, b]
  rfl
theorem r_eqL {a b : Addr} {xs ys : List V} (h : SqL K H a xs) (h' : SqL K H b ys) (o : xs.all okV = true) (o' : ys.all okV = true) (q : Q (.bl (decide (xs = ys))) H) : rEqD K (.ref a) (.ref b) H Q :=
  ⟨_, _, .lst h (dpAll_flat o), .lst h' (dpAll_flat o'), shaped_flat o, shaped_flat o', by
    show Q (.bl (PyData.eqvAll (xs.map pdV) (ys.map pdV))) H
    rw [eqv_flat o o']
    exact q⟩
theorem r_neL {a b : Addr} {xs ys : List V} (h : SqL K H a xs) (h' : SqL K H b ys) (o : xs.all okV = true) (o' : ys.all okV = true) (q : Q (.bl (!decide (xs = ys))) H) : rNeD K (.ref a) (.ref b) H Q :=
  ⟨_, _, .lst h (dpAll_flat o), .lst h' (dpAll_flat o'), shaped_flat o, shaped_flat o', by
    show Q (.bl (!PyData.eqvAll (xs.map pdV) (ys.map pdV))) H
    rw [eqv_flat o o']
    exact q⟩
theorem r_eqT {a b : Addr} {xs ys : List V} (h : SqT K H a xs) (h' : SqT K H b ys) (o : xs.all okV = true) (o' : ys.all okV = true) (q : Q (.bl (decide (xs = ys))) H) : rEqD K (.ref a) (.ref b) H Q :=
  ⟨_, _, .tup h (dpAll_flat o), .tup h' (dpAll_flat o'), shaped_flatT o, shaped_flatT o', by
    show Q (.bl (PyData.eqvAll (xs.map pdV) (ys.map pdV))) H
    rw [eqv_flat o o']
    exact q⟩
theorem r_neT {a b : Addr} {xs ys : List V} (h : SqT K H a xs) (h' : SqT K H b ys) (o : xs.all okV = true) (o' : ys.all okV = true) (q : Q (.bl (!decide (xs = ys))) H) : rNeD K (.ref a) (.ref b) H Q :=
  ⟨_, _, .tup h (dpAll_flat o), .tup h' (dpAll_flat o'), shaped_flatT o, shaped_flatT o', by
    show Q (.bl (!PyData.eqvAll (xs.map pdV) (ys.map pdV))) H
    rw [eqv_flat o o']
    exact q⟩
theorem all_int (ns : List Int) : (ns.map V.int).all okV = true := by
  rw [List.all_map]
  exact List.all_eq_true.mpr fun _ _ => rfl
theorem map_int_inj {a b : List Int} (h : a.map V.int = b.map V.int) : a = b := by
  have := congrArg (List.map fun v => match v with | V.int i => i | _ => 0) h
  rw [List.map_map, List.map_map] at this
  have e : ((fun v => match v with | V.int i => i | _ => 0) ∘ V.int) = (id : Int → Int) := by funext x; rfl
  rw [e, List.map_id, List.map_id] at this
  exact this
theorem dec_ints {a b : List Int} : decide (a.map V.int = b.map V.int) = decide (a = b) := by
  by_cases h : a = b
  · rw [h, decide_eq_true rfl, decide_eq_true rfl]
  · rw [decide_eq_false h, decide_eq_false (fun e => h (map_int_inj e))]
/-- isinstance -/
theorem r_isiT {x : V} {a b : String} (ty : TyX K H x (.type a)) (h : kitB a b = some true) (q : Q (.bl true) H) : rIsi K [x, .ty b] H Q := ⟨x, .ty b, .type a, .type b, true, rfl, .ty b, ty, kit_ty h, q⟩
theorem r_isiF {x : V} {a b : String} (ty : TyX K H x (.type a)) (h : kitB a b = some false) (q : Q (.bl false) H) : rIsi K [x, .ty b] H Q := ⟨x, .ty b, .type a, .type b, false, rfl, .ty b, ty, kit_ty h, q⟩
theorem tyX_sq {a : Addr} {xs : List V} (h : SqL K H a xs) : TyX K H (.ref a) (.type "list") := by
  rcases h with (h | ⟨o, h⟩) | ⟨o, its, n, h1, h2, _⟩
  · exact .base (.lst h)
  · exact .base (.frz h)
  · exact .kList h1 h2

/-! ### loops: the reading waits at one of these, its arguments seen -/
def LoopR (lo : Int) (n j : Nat) (tb : TS) : TS := fun D σ H => ∃ W : Nat → Nat → L2.St → Hp → Prop, (∃ m, W 0 m σ H) ∧ ∀ i m σ H, W i m σ H →
  ((Itr lo n).stop i H ∧ D.nx σ H) ∨ ((Itr lo n).go i H ∧ ∃ N : L2.St → Hp → Prop, (∀ σ' H', N σ' H' → ∃ m', m' < m ∧ W (i + 1) m' σ' H') ∧ ∀ x H', (Itr lo n).yld i H x H' → gName j x σ H' fun σ2 H2 => tb ⟨N, D.rt, D.nx, N⟩ σ2 H2)
def LoopL (K : PySem.W.Frag) (a : Addr) (j : Nat) (tb : TS) : TS := fun D σ H => ∃ W : Nat → Nat → L2.St → Hp → Prop, (∃ m, W 0 m σ H) ∧ ∀ i m σ H, W i m σ H →
  ((Itl K a).stop i H ∧ D.nx σ H) ∨ ((Itl K a).go i H ∧ ∃ N : L2.St → Hp → Prop, (∀ σ' H', N σ' H' → ∃ m', m' < m ∧ W (i + 1) m' σ' H') ∧ ∀ x H', (Itl K a).yld i H x H' → gName j x σ H' fun σ2 H2 => tb ⟨N, D.rt, D.nx, N⟩ σ2 H2)
def LoopC (lo c : Int) (n j : Nat) (tb : TS) : TS := fun D σ H => ∃ W : Nat → Nat → L2.St → Hp → Prop, (∃ m, W 0 m σ H) ∧ ∀ i m σ H, W i m σ H →
  ((Itc lo c n).stop i H ∧ D.nx σ H) ∨ ((Itc lo c n).go i H ∧ ∃ N : L2.St → Hp → Prop, (∀ σ' H', N σ' H' → ∃ m', m' < m ∧ W (i + 1) m' σ' H') ∧ ∀ x H', (Itc lo c n).yld i H x H' → gName j x σ H' fun σ2 H2 => tb ⟨N, D.rt, D.nx, N⟩ σ2 H2)
theorem r_for1 {tr : TA} {j : Nat} {tb : TS} (h : tr σ H fun vs H1 => ∃ n : Int, vs = [.int n] ∧ -(2 ^ 62) ≤ n ∧ n < 2 ^ 62 ∧ LoopR 0 n.toNat j tb ⟨nx, rt, bk, ct⟩ σ H1) : tFor (iRng1 tr) (gName j) tb ⟨nx, rt, bk, ct⟩ σ H := h
theorem r_rng1 {n : Int} {N : Int → Prop} (h : -1000000 ≤ n ∧ n ≤ 1000000) (q : N n) : ∃ m : Int, ([.int n] : List V) = [.int m] ∧ -(2 ^ 62) ≤ m ∧ m < 2 ^ 62 ∧ N m := ⟨n, rfl, by omega, by omega, q⟩
theorem r_for2 {tr : TA} {j : Nat} {tb : TS} (h : tr σ H fun vs H1 => ∃ m n : Int, vs = [.int m, .int n] ∧ (-(2 ^ 62) ≤ m ∧ m < 2 ^ 62 ∧ -(2 ^ 62) ≤ n ∧ n < 2 ^ 62) ∧ LoopR m (n - m).toNat j tb ⟨nx, rt, bk, ct⟩ σ H1) : tFor (iRng2 tr) (gName j) tb ⟨nx, rt, bk, ct⟩ σ H := h
theorem r_rng2 {m n : Int} {N : Int → Int → Prop} (h : -1000000 ≤ m ∧ m ≤ 1000000 ∧ -1000000 ≤ n ∧ n ≤ 1000000) (q : N m n) : ∃ a b : Int, ([.int m, .int n] : List V) = [.int a, .int b] ∧ (-(2 ^ 62) ≤ a ∧ a < 2 ^ 62 ∧ -(2 ^ 62) ≤ b ∧ b < 2 ^ 62) ∧ N a b := ⟨m, n, rfl, ⟨by omega, by omega, by omega, by omega⟩, q⟩
theorem r_forL {j : Nat} {tb : TS} (h : te σ H fun x H1 => ∃ a, x = .ref a ∧ (∃ xs, SqL K H1 a xs) ∧ LoopL K a j tb ⟨nx, rt, bk, ct⟩ σ H1) : tFor (iList K te) (gName j) tb ⟨nx, rt, bk, ct⟩ σ H := h
theorem r_itL {a : Addr} {xs : List V} {N : Addr → Prop} (h : SqL K H a xs) (q : N a) : ∃ b, V.ref a = .ref b ∧ (∃ xs, SqL K H b xs) ∧ N b := ⟨a, rfl, ⟨xs, h⟩, q⟩
theorem r_forC {j : Nat} {tb : TS} {tr : L2.St → Hp → (Int → Int → Hp → Prop) → Prop} (h : tr σ H fun a b H1 => -(2 ^ 62) ≤ a ∧ a < 2 ^ 62 ∧ -(2 ^ 62) ≤ b ∧ b < 2 ^ 62 ∧ LoopC (a + (((b - a).toNat : Nat) : Int) - 1) (-1) (b - a).toNat j tb ⟨nx, rt, bk, ct⟩ σ H1) : tFor (iRevR tr) (gName j) tb ⟨nx, rt, bk, ct⟩ σ H := h
theorem r_loopR {lo : Int} {n j : Nat} {tb : TS} (Pv : Nat → L2.St → Hp → Prop) (h0 : Pv 0 σ H)
    (hs : ∀ i σ' H', i < n → Pv i σ' H' → tb ⟨Pv (i + 1), rt, nx, Pv (i + 1)⟩ (σ'.set j (some (.int (lo + (i : Int))))) H') (hd : ∀ σ' H', Pv n σ' H' → nx σ' H') : LoopR lo n j tb ⟨nx, rt, bk, ct⟩ σ H :=
  for_range (g := gName j) Pv h0 hs hd
theorem r_loop0 {n j : Nat} {tb : TS} (Pv : Nat → L2.St → Hp → Prop) (h0 : Pv 0 σ H)
    (hs : ∀ i σ' H', i < n → Pv i σ' H' → tb ⟨Pv (i + 1), rt, nx, Pv (i + 1)⟩ (σ'.set j (some (.int (i : Int)))) H') (hd : ∀ σ' H', Pv n σ' H' → nx σ' H') : LoopR 0 n j tb ⟨nx, rt, bk, ct⟩ σ H :=
  r_loopR Pv h0 (fun i σ' H' hi hp => by
    have e : (0 : Int) + (i : Int) = (i : Int) := Int.zero_add _
    rw [e]
    exact hs i σ' H' hi hp) hd
theorem r_loopC {lo c : Int} {n j : Nat} {tb : TS} (Pv : Nat → L2.St → Hp → Prop) (h0 : Pv 0 σ H)
    (hs : ∀ i σ' H', i < n → Pv i σ' H' → tb ⟨Pv (i + 1), rt, nx, Pv (i + 1)⟩ (σ'.set j (some (.int (lo + (i : Nat) * c)))) H') (hd : ∀ σ' H', Pv n σ' H' → nx σ' H') : LoopC lo c n j tb ⟨nx, rt, bk, ct⟩ σ H :=
  for_rangeC (g := gName j) Pv h0 hs hd
theorem r_loopL {a : Addr} {xs : List V} {j : Nat} {tb : TS} (Pv : Nat → L2.St → Hp → Prop) (h0 : Pv 0 σ H) (hl : ∀ i σ' H', i ≤ xs.length → Pv i σ' H' → SqL K H' a xs)
    (hs : ∀ i x σ' H', xs[i]? = some x → Pv i σ' H' → tb ⟨Pv (i + 1), rt, nx, Pv (i + 1)⟩ (σ'.set j (some x)) H') (hd : ∀ σ' H', Pv xs.length σ' H' → nx σ' H') : LoopL K a j tb ⟨nx, rt, bk, ct⟩ σ H :=
  for_list (g := gName j) Pv h0 hl hs hd
theorem nth_int {ns : List Int} {i : Nat} {x : V} (h : (ns.map V.int)[i]? = some x) : ∃ z, ns[i]? = some z ∧ x = .int z := by
  rw [List.getElem?_map] at h
  cases e : ns[i]? with
  | none =>
    rw [e] at h
    cases h
  | some z =>
    rw [e] at h
    exact ⟨z, rfl, (Option.some.inj h).symm⟩
theorem r_loopI {a : Addr} {ns : List Int} {j : Nat} {tb : TS} (Pv : Nat → L2.St → Hp → Prop) (h0 : Pv 0 σ H) (hl : ∀ i σ' H', i ≤ ns.length → Pv i σ' H' → SqL K H' a (ns.map V.int))
    (hs : ∀ i z σ' H', ns[i]? = some z → Pv i σ' H' → tb ⟨Pv (i + 1), rt, nx, Pv (i + 1)⟩ (σ'.set j (some (.int z))) H') (hd : ∀ σ' H', Pv ns.length σ' H' → nx σ' H') : LoopL K a j tb ⟨nx, rt, bk, ct⟩ σ H :=
  r_loopL (xs := ns.map V.int) Pv h0 (fun i σ' H' hi => hl i σ' H' (by rw [List.length_map] at hi; exact hi)) (fun i x σ' H' hi hp => by
    obtain ⟨z, hz, rfl⟩ := nth_int hi
    exact hs i z σ' H' hz hp) (fun σ' H' hp => hd σ' H' (by rw [List.length_map] at hp; exact hp))
theorem r_while (W : Nat → L2.St → Hp → Prop) (m0 : Nat) (h0 : W m0 σ H)
    (hs : ∀ m σ' H', W m σ' H' → tt σ' H' fun b H1 => if b = true then ∃ N : L2.St → Hp → Prop, (∀ σ2 H2, N σ2 H2 → ∃ m', m' < m ∧ W m' σ2 H2) ∧ t ⟨N, rt, nx, N⟩ σ' H1 else nx σ' H1) : tWhile tt t ⟨nx, rt, bk, ct⟩ σ H :=
  ⟨W, ⟨m0, h0⟩, hs⟩
theorem r_wh {W : Nat → L2.St → Hp → Prop} {m : Nat} (h : t ⟨fun σ2 H2 => ∃ m', m' < m ∧ W m' σ2 H2, rt, nx, fun σ2 H2 => ∃ m', m' < m ∧ W m' σ2 H2⟩ σ H) :
    ∃ N : L2.St → Hp → Prop, (∀ σ2 H2, N σ2 H2 → ∃ m', m' < m ∧ W m' σ2 H2) ∧ t ⟨N, rt, nx, N⟩ σ H := ⟨_, fun _ _ h => h, h⟩
theorem r_rg1 {N : Int → Int → Hp → Prop} (h : ta σ H fun x H1 => ∃ n, x = .int n ∧ N 0 n H1) : tRg1 ta σ H N := h
theorem r_rg2 {N : Int → Int → Hp → Prop} (h : ta σ H fun x H1 => tb σ H1 fun y H2 => ∃ i j, x = .int i ∧ y = .int j ∧ N i j H2) : tRg2 ta tb σ H N := h
theorem r_ij {i j : Int} {N : Int → Int → Prop} (h : N i j) : ∃ a b, V.int i = V.int a ∧ V.int j = V.int b ∧ N a b := ⟨i, j, rfl, rfl, h⟩
theorem r_rngC {i j : Int} {N : Prop} (h : -1000000 ≤ i ∧ i ≤ 1000000 ∧ -1000000 ≤ j ∧ j ≤ 1000000) (q : N) : -(2 ^ 62) ≤ i ∧ i < 2 ^ 62 ∧ -(2 ^ 62) ≤ j ∧ j < 2 ^ 62 ∧ N := ⟨by omega, by omega, by omega, by omega, q⟩
theorem r_index1 {a : Addr} {ns : List Int} {y : Int} {j : Nat} (h : SqL K H a (ns.map V.int)) (hj : ns[j]? = some y) (hno : ∀ m : Nat, m < j → ns[m]? ≠ some y) (q : Q (.int (j : Nat)) H) : rIndex K (.ref a) [.int y] H Q := by
  refine ⟨a, ns.map V.int, .int y, j, .int y, rfl, rfl, h, rfl, by rw [List.all_map]; exact List.all_eq_true.mpr fun _ _ => rfl, by rw [List.getElem?_map, hj] <;> rfl, ?_, fun m z hm hz => ?_, q⟩
  · show (y == y) = true
    exact beq_self_eq_true y
  · rw [List.getElem?_map] at hz
    cases e : ns[m]? with
    | none =>
      rw [e] at hz
      cases hz
    | some x =>
      rw [e] at hz
      obtain rfl := Option.some.inj hz
      show (x == y) = false
      exact beq_eq_false_iff_ne.mpr fun z => hno m hm (by rw [e, z])
def LoopT (K : PySem.W.Frag) (a : Addr) (j : Nat) (tb : TS) : TS := fun D σ H => ∃ W : Nat → Nat → L2.St → Hp → Prop, (∃ m, W 0 m σ H) ∧ ∀ i m σ H, W i m σ H →
  ((Itt K a).stop i H ∧ D.nx σ H) ∨ ((Itt K a).go i H ∧ ∃ N : L2.St → Hp → Prop, (∀ σ' H', N σ' H' → ∃ m', m' < m ∧ W (i + 1) m' σ' H') ∧ ∀ x H', (Itt K a).yld i H x H' → gName j x σ H' fun σ2 H2 => tb ⟨N, D.rt, D.nx, N⟩ σ2 H2)
theorem r_forT {j : Nat} {tb : TS} (h : te σ H fun x H1 => ∃ a, x = .ref a ∧ (∃ xs, SqT K H1 a xs) ∧ LoopT K a j tb ⟨nx, rt, bk, ct⟩ σ H1) : tFor (iTup K te) (gName j) tb ⟨nx, rt, bk, ct⟩ σ H := h
theorem r_itT {a : Addr} {xs : List V} {N : Addr → Prop} (h : SqT K H a xs) (q : N a) : ∃ b, V.ref a = .ref b ∧ (∃ xs, SqT K H b xs) ∧ N b := ⟨a, rfl, ⟨xs, h⟩, q⟩
theorem r_loopT {a : Addr} {xs : List V} {j : Nat} {tb : TS} (Pv : Nat → L2.St → Hp → Prop) (h0 : Pv 0 σ H) (hl : ∀ i σ' H', i ≤ xs.length → Pv i σ' H' → SqT K H' a xs)
    (hs : ∀ i x σ' H', xs[i]? = some x → Pv i σ' H' → tb ⟨Pv (i + 1), rt, nx, Pv (i + 1)⟩ (σ'.set j (some x)) H') (hd : ∀ σ' H', Pv xs.length σ' H' → nx σ' H') : LoopT K a j tb ⟨nx, rt, bk, ct⟩ σ H :=
  for_tup (g := gName j) Pv h0 hl hs hd
/-! comprehensions -/
def LcL (K : PySem.W.Frag) (a : Addr) (j : Nat) (tt : TT) (te : TE) (vs : List Nat) : TE := fun σ H Q => ∀ D, H D = none → ∃ W : Nat → Nat → Hp → Prop, (∃ m, W 0 m (upd H D (.lst []))) ∧ ∀ i m H, W i m H →
  ((Itl K a).stop i H ∧ Q (.ref D) H) ∨ ((Itl K a).go i H ∧ ∃ Nx : Hp → Prop, (∀ H', Nx H' → ∃ m', m' < m ∧ W (i + 1) m' H') ∧ ∀ x H', (Itl K a).yld i H x H' → gName j x (wipe σ vs) H' fun σ2 H2 => wipe σ2 vs = wipe σ vs ∧ tt σ2 H2 fun b H3 =>
    if b = true then te σ2 H3 fun y H4 => ∃ acc, H4 D = some (.lst acc) ∧ acc.length < sizeLine ∧ Nx (upd H4 D (.lst (acc ++ [y]))) else Nx H3)
def LcR (lo : Int) (n j : Nat) (tt : TT) (te : TE) (vs : List Nat) : TE := fun σ H Q => ∀ D, H D = none → ∃ W : Nat → Nat → Hp → Prop, (∃ m, W 0 m (upd H D (.lst []))) ∧ ∀ i m H, W i m H →
  ((Itr lo n).stop i H ∧ Q (.ref D) H) ∨ ((Itr lo n).go i H ∧ ∃ Nx : Hp → Prop, (∀ H', Nx H' → ∃ m', m' < m ∧ W (i + 1) m' H') ∧ ∀ x H', (Itr lo n).yld i H x H' → gName j x (wipe σ vs) H' fun σ2 H2 => wipe σ2 vs = wipe σ vs ∧ tt σ2 H2 fun b H3 =>
    if b = true then te σ2 H3 fun y H4 => ∃ acc, H4 D = some (.lst acc) ∧ acc.length < sizeLine ∧ Nx (upd H4 D (.lst (acc ++ [y]))) else Nx H3)
theorem r_lc1 {tr : TA} {j : Nat} {vs : List Nat} (h : tr σ H fun ws H1 => ∃ n : Int, ws = [.int n] ∧ -(2 ^ 62) ≤ n ∧ n < 2 ^ 62 ∧ LcR 0 n.toNat j tt te vs σ H1 Q) : tLc (iRng1 tr) (gName j) tt te vs σ H Q := h
theorem r_lc2 {tr : TA} {j : Nat} {vs : List Nat} (h : tr σ H fun ws H1 => ∃ m n : Int, ws = [.int m, .int n] ∧ (-(2 ^ 62) ≤ m ∧ m < 2 ^ 62 ∧ -(2 ^ 62) ≤ n ∧ n < 2 ^ 62) ∧ LcR m (n - m).toNat j tt te vs σ H1 Q) : tLc (iRng2 tr) (gName j) tt te vs σ H Q := h
theorem r_lcL {j : Nat} {vs : List Nat} (h : ta σ H fun x H1 => ∃ a, x = .ref a ∧ (∃ xs, SqL K H1 a xs) ∧ LcL K a j tt te vs σ H1 Q) : tLc (iList K ta) (gName j) tt te vs σ H Q := h
theorem r_yes {N : Bool → Hp → Prop} (h : N true H) : tYes σ H N := h
theorem r_LcL {a : Addr} {xs : List V} {j : Nat} {vs : List Nat} (hx : SqL K H a xs) (acc : Nat → List V) (h0 : acc 0 = []) (hz : ∀ i, i ≤ xs.length → (acc i).length ≤ 100000) (hw : ∀ x, wipe ((wipe σ vs).set j (some x)) vs = wipe σ vs)
    (hs : ∀ i x H' (N : VK) (Z : Hp → Prop), xs[i]? = some x → Same H H' → (∀ y H4, Same H' H4 → acc (i + 1) = acc i ++ [y] → N y H4) → (∀ H3, Same H' H3 → acc (i + 1) = acc i → Z H3) →
      tt ((wipe σ vs).set j (some x)) H' fun b H3 => if b = true then te ((wipe σ vs).set j (some x)) H3 N else Z H3)
    (hd : ∀ p H', H p = none → Same H H' → H' p = some (.lst (acc xs.length)) → Q (.ref p) H') : LcL K a j tt te vs σ H Q := by
  intro p np
  refine lc_list (g := gName j) (xs := xs) (fun i H' => i ≤ xs.length ∧ Same H H' ∧ H' p = some (.lst (acc i))) ⟨Nat.zero_le _, same_new np _, by rw [h0]; exact upd_same⟩ (fun i H' _ q => q.2.1.seq hx) (fun i x H' hi q => ?_) (fun H' q => hd p H' np q.2.1 q.2.2)
  obtain ⟨_, s, e⟩ := q
  have hil : i < xs.length := (List.getElem?_eq_some_iff.mp hi).1
  refine ⟨hw x, hs i x H' _ _ hi s (fun y H4 s4 e4 => ?_) fun H3 s3 e3 => ?_⟩
  · refine ⟨acc i, s4 _ _ e, Nat.lt_of_le_of_lt (hz i (Nat.le_of_lt hil)) (by decide), hil, ?_, ?_⟩
    · exact same_mut (s.trans s4) np
    · rw [e4]
      exact upd_same
  · exact ⟨hil, s.trans s3, by rw [e3]; exact s3 _ _ e⟩
theorem r_LcR {lo : Int} {n : Nat} {j : Nat} {vs : List Nat} (acc : Nat → List V) (h0 : acc 0 = []) (hz : ∀ i, i ≤ n → (acc i).length ≤ 100000) (hw : ∀ x, wipe ((wipe σ vs).set j (some x)) vs = wipe σ vs)
    (hs : ∀ i H' (N : VK) (Z : Hp → Prop), i < n → Same H H' → (∀ y H4, Same H' H4 → acc (i + 1) = acc i ++ [y] → N y H4) → (∀ H3, Same H' H3 → acc (i + 1) = acc i → Z H3) →
      tt ((wipe σ vs).set j (some (.int (lo + (i : Int))))) H' fun b H3 => if b = true then te ((wipe σ vs).set j (some (.int (lo + (i : Int))))) H3 N else Z H3)
    (hd : ∀ p H', H p = none → Same H H' → H' p = some (.lst (acc n)) → Q (.ref p) H') : LcR lo n j tt te vs σ H Q := by
  intro p np
  refine lc_range (g := gName j) (fun i H' => i ≤ n ∧ Same H H' ∧ H' p = some (.lst (acc i))) ⟨Nat.zero_le _, same_new np _, by rw [h0]; exact upd_same⟩ (fun i H' hi q => ?_) (fun H' q => hd p H' np q.2.1 q.2.2)
  obtain ⟨_, s, e⟩ := q
  refine ⟨hw _, hs i H' _ _ hi s (fun y H4 s4 e4 => ?_) fun H3 s3 e3 => ?_⟩
  · refine ⟨acc i, s4 _ _ e, Nat.lt_of_le_of_lt (hz i (Nat.le_of_lt hi)) (by decide), hi, ?_, ?_⟩
    · exact same_mut (s.trans s4) np
    · rw [e4]
      exact upd_same
  · exact ⟨hi, s.trans s3, by rw [e3]; exact s3 _ _ e⟩
theorem r_LcR0 {n : Nat} {j : Nat} {vs : List Nat} (acc : Nat → List V) (h0 : acc 0 = []) (hz : ∀ i, i ≤ n → (acc i).length ≤ 100000) (hw : ∀ x, wipe ((wipe σ vs).set j (some x)) vs = wipe σ vs)
    (hs : ∀ i H' (N : VK) (Z : Hp → Prop), i < n → Same H H' → (∀ y H4, Same H' H4 → acc (i + 1) = acc i ++ [y] → N y H4) → (∀ H3, Same H' H3 → acc (i + 1) = acc i → Z H3) →
      tt ((wipe σ vs).set j (some (.int (i : Int)))) H' fun b H3 => if b = true then te ((wipe σ vs).set j (some (.int (i : Int)))) H3 N else Z H3)
    (hd : ∀ p H', H p = none → Same H H' → H' p = some (.lst (acc n)) → Q (.ref p) H') : LcR 0 n j tt te vs σ H Q :=
  r_LcR acc h0 hz hw (fun i H' N Z hi s hN hZ => by
    have e : (0 : Int) + (i : Int) = (i : Int) := Int.zero_add _
    rw [e]
    exact hs i H' N Z hi s hN hZ) hd
/-- maps and filters, by how far one is -/
def mapAcc (f : V → V) (xs : List V) (i : Nat) : List V := (xs.take i).map f
theorem take_more {α : Type} : ∀ {l : List α} {i : Nat} {x : α}, l[i]? = some x → l.take (i + 1) = l.take i ++ [x]
  | [], i, x, h => by simp at h
  | a :: l, 0, x, h => by
    have e : a = x := Option.some.inj h
    subst e
    rfl
  | a :: l, i + 1, x, h => by
    have ih := take_more (l := l) (i := i) (x := x) h
    show a :: l.take (i + 1) = a :: l.take i ++ [x]
    rw [ih]
    rfl
end
theorem getD_at' {ns : List Int} {k : Nat} (h : k < ns.length) : ns[k]? = some (ns.getD k 0) := by
  rw [List.getD_eq_getElem?_getD, List.getElem?_eq_getElem h]
  rfl
theorem ix_nat {n : Nat} {i : Int} (h0 : 0 ≤ i) (h1 : i < (n : Int)) : ixN n i = some i.toNat := by
  unfold ixN
  rw [if_pos h0, if_pos h1]
theorem map_set (ns : List Int) (j : Nat) (z : Int) : (ns.map V.int).set j (.int z) = (ns.set j z).map V.int := by
  rw [List.map_set]
theorem r_setL {o : Addr} {i z : Int} {ns : List Int} {H : Hp} {Q : Hp → Prop} (h : H o = some (.lst (ns.map V.int))) (h0 : 0 ≤ i) (h1 : i < (ns.length : Int)) (q : Q (upd H o (.lst ((ns.set i.toNat z).map V.int)))) : rSetL (.ref o) (.int i) (.int z) H Q := by
  refine ⟨o, ns.map V.int, i, i.toNat, rfl, rfl, h, ?_, ?_⟩
  · rw [List.length_map]
    exact ix_nat h0 h1
  · rw [map_set]
    exact q
theorem rep_flat {n : Int} {x : V} : (List.replicate n.toNat [x]).flatten = List.replicate n.toNat x := by
  generalize n.toNat = k
  induction k with
  | zero => rfl
  | succ k ih =>
    rw [List.replicate_succ, List.flatten_cons, ih, List.replicate_succ]
    rfl
theorem r_rep {l : Addr} {k : Int} {x : V} {H : Hp} {Q : VK} (h : H l = some (.lst [x])) (h0 : -1000000 ≤ k) (h1 : k ≤ 1000000) (q : ∀ p, H p = none → Q (.ref p) (upd H p (.lst (List.replicate k.toNat x)))) : rRep (.ref l) (.int k) H Q := by
  refine ⟨l, k, [x], rfl, rfl, h, by omega, by omega, sz (by rw [List.length_singleton]; omega), fun p np => ?_⟩
  rw [rep_flat]
  exact q p np
theorem r_setV {o : Addr} {i : Int} {z : V} {xs : List V} {H : Hp} {Q : Hp → Prop} (h : H o = some (.lst xs)) (h0 : 0 ≤ i) (h1 : i < (xs.length : Int)) (q : Q (upd H o (.lst (xs.set i.toNat z)))) : rSetL (.ref o) (.int i) z H Q :=
  ⟨o, xs, i, i.toNat, rfl, rfl, h, by unfold ixN; rw [if_pos h0, if_pos h1], q⟩
theorem natmap_len (pl : List Nat) : (pl.map fun (n : Nat) => V.int (n : Int)).length = pl.length := List.length_map _
theorem pile_last {K : PySem.W.Frag} {pl : List Nat} {t : Nat} {H : Hp} {a : Addr} {Q : VK} (h : H a = some (.lst ((pl ++ [t]).map fun (n : Nat) => V.int (n : Int)))) (q : Q (.int (t : Int)) H) : rIxL K (.ref a) (.int (-1)) H Q := by
  refine r_ixL (VT.SqL.lst h) ?_ q
  rw [List.map_append]
  exact atI_last _ _
theorem r_popN {pl : List Nat} {t : Nat} {H : Hp} {a : Addr} {Q : VK} (h : H a = some (.lst ((pl ++ [t]).map fun (n : Nat) => V.int (n : Int)))) (q : Q (.int (t : Int)) (upd H a (.lst (pl.map fun (n : Nat) => V.int (n : Int))))) : rPop (.ref a) [] H Q := by
  refine ⟨a, _, .int (t : Int), rfl, rfl, h, ?_, ?_⟩
  · rw [List.map_append, List.length_append, List.length_map, List.length_map, List.length_singleton, Nat.add_sub_cancel, List.getElem?_append_right (by rw [List.length_map]; exact Nat.le_refl _), List.length_map, Nat.sub_self] <;> rfl
  · rw [List.map_append]
    show Q (.int (t : Int)) (upd H a (.lst ((pl.map fun (n : Nat) => V.int (n : Int)) ++ [V.int (t : Int)]).dropLast))
    rw [List.dropLast_concat]
    exact q
theorem pile_push (pl : List Nat) (k : Nat) : (pl.map fun (n : Nat) => V.int (n : Int)) ++ [V.int (k : Int)] = (pl ++ [k]).map fun (n : Nat) => V.int (n : Int) := by
  rw [List.map_append] <;> rfl
theorem concat_of {α : Type} {l : List α} (h : l ≠ []) : ∃ r t, l = r ++ [t] := ⟨l.dropLast, l.getLast h, (List.dropLast_concat_getLast h).symm⟩
theorem r_popV {l : Addr} {xs : List V} {y : V} {H : Hp} {Q : VK} (h : H l = some (.lst (xs ++ [y]))) (q : Q y (upd H l (.lst xs))) : rPop (.ref l) [] H Q := by
  refine ⟨l, xs ++ [y], y, rfl, rfl, h, ?_, ?_⟩
  · rw [List.length_append, List.length_singleton, Nat.add_sub_cancel, List.getElem?_append_right (Nat.le_refl _), Nat.sub_self] <;> rfl
  · rw [List.dropLast_concat]
    exact q
theorem r_tup3 {K : PySem.W.Frag} {σ : L2.St} {H : Hp} {a : Addr} {i j k : Nat} {x y z : V} {N : L2.St → Hp → Prop} (h : SqT K H a [x, y, z]) (q : N (((σ.set i (some x)).set j (some y)).set k (some z)) H) : gTup K 3 (gCons (gName i) (gCons (gName j) (gCons (gName k) gNil))) (.ref a) σ H N :=
  ⟨a, [x, y, z], rfl, h, rfl, x, [y, z], rfl, y, [z], rfl, z, [], rfl, rfl, q⟩
theorem r_tup2 {K : PySem.W.Frag} {σ : L2.St} {H : Hp} {a : Addr} {i j : Nat} {x y : V} {N : L2.St → Hp → Prop} (h : SqT K H a [x, y]) (q : N ((σ.set i (some x)).set j (some y)) H) : gTup K 2 (gCons (gName i) (gCons (gName j) gNil)) (.ref a) σ H N :=
  ⟨a, [x, y], rfl, h, rfl, x, [y], rfl, y, [], rfl, rfl, q⟩
theorem r_in {K : PySem.W.Frag} {p : Addr} {x : V} {xs : List V} {H : Hp} {Q : VK} (h : SqL K H p xs) (f1 : flatV x = true) (f2 : xs.all flatV = true) (q : Q (.bl (inV x xs)) H) : rIn K false x (.ref p) H Q := ⟨p, xs, rfl, .inl h, f1, f2, q⟩
theorem inV_nat {ys : List Nat} {x : Nat} : inV (.int (x : Int)) (ys.map fun (n : Nat) => V.int (n : Int)) = decide (x ∈ ys) := by
  unfold inV
  induction ys with
  | nil => rfl
  | cons y ys ih =>
    rw [List.map_cons, List.any_cons, ih]
    show (((y : Int) == (x : Int)) || decide (x ∈ ys)) = decide (x ∈ y :: ys)
    by_cases e : y = x
    · subst e
      simp
    · have e1 : ((y : Int) == (x : Int)) = false := beq_eq_false_iff_ne.mpr (by omega)
      have e2 : x ≠ y := fun z => e z.symm
      rw [e1]
      simp [e2]
theorem flat_nat {ys : List Nat} : (ys.map fun (n : Nat) => V.int (n : Int)).all flatV = true := by
  rw [List.all_map]
  exact List.all_eq_true.mpr fun _ _ => rfl
theorem SqL.keep {K : PySem.W.Frag} {H H' : Hp} {a : Addr} {xs : List V} (h : SqL K H a xs) (e : ∀ o, H a = some o → H' a = some o) : SqL K H' a xs := by
  rcases h with (h | ⟨o, h⟩) | h
  · exact .inl (.inl (e _ h))
  · exact .inl (.inr ⟨o, e _ h⟩)
  · exact .inr h
theorem fnOk_no {P : Program} {w : World} {K : PySem.W.Frag} {mg : Str → Option Value} {base : Heap} {CX : CXT} {k : Nat} {f : Addr} {fd : FuncData} {ps : List Str} {sp : Sp} (h : ∀ vs H Q E, ¬ sp vs H Q E) : FnOk P w K mg base CX k f fd ps sp :=
  ⟨fun vs H Q E z => absurd z (h vs H Q E), fun A outer s H args us vs Q E _ _ _ _ z => absurd z (h vs H Q E)⟩
end VT
/-! ### the least of a stretch -/
namespace VT
/-- of the places from i to j the first with the least number is at, the number m -/
structure IsLeast (ns : List Int) (i j : Nat) (m : Int) (at' : Nat) : Prop where
  lo : i ≤ at'
  hi : at' < j
  val : ns[at']? = some m
  le : ∀ k x, i ≤ k → k < j → ns[k]? = some x → m ≤ x
  fst : ∀ k x, i ≤ k → k < at' → ns[k]? = some x → m < x
theorem IsLeast.uniq {ns : List Int} {i j : Nat} {m m' : Int} {a a' : Nat} (h : IsLeast ns i j m a) (h' : IsLeast ns i j m' a') : m = m' ∧ a = a' := by
  have e : m = m' := by
    have h1 := h.le a' m' h'.lo h'.hi h'.val
    have h2 := h'.le a m h.lo h.hi h.val
    omega
  refine ⟨e, ?_⟩
  subst e
  rcases Nat.lt_trichotomy a a' with c | c | c
  · have := h'.fst a m h.lo c h.val
    omega
  · exact c
  · have := h.fst a' m h'.lo c h'.val
    omega
theorem first_at {ns : List Int} {i : Nat} {m : Int} : ∀ (k : Nat), i ≤ k → ns[k]? = some m → ∃ j, i ≤ j ∧ j ≤ k ∧ ns[j]? = some m ∧ ∀ l, i ≤ l → l < j → ns[l]? ≠ some m := by
  intro k
  induction k using Nat.strongRecOn with
  | _ k ih =>
    intro h1 h2
    by_cases h : ∃ l, i ≤ l ∧ l < k ∧ ns[l]? = some m
    · obtain ⟨l, a, b, c⟩ := h
      obtain ⟨j, j1, j2, j3, j4⟩ := ih l b a c
      exact ⟨j, j1, by omega, j3, j4⟩
    · exact ⟨k, h1, Nat.le_refl _, h2, fun l a b c => h ⟨l, a, b, c⟩⟩
theorem slice_get {ns : List Int} {i j : Nat} {k : Nat} : ((ns.drop i).take (j - i))[k]? = if k < j - i then ns[i + k]? else none := by
  rw [List.getElem?_take]
  split
  · rw [List.getElem?_drop]
  · rfl
theorem mem_slice {ns : List Int} {i j : Nat} {m : Int} (h : m ∈ (ns.drop i).take (j - i)) : ∃ k, i ≤ k ∧ k < j ∧ ns[k]? = some m := by
  obtain ⟨k, hk⟩ := List.mem_iff_getElem?.mp h
  rw [slice_get] at hk
  split at hk
  · exact ⟨i + k, by omega, by omega, hk⟩
  · cases hk
theorem in_slice {ns : List Int} {i j k : Nat} {x : Int} (h1 : i ≤ k) (h2 : k < j) (h : ns[k]? = some x) : x ∈ (ns.drop i).take (j - i) := by
  refine List.mem_iff_getElem?.mpr ⟨k - i, ?_⟩
  rw [slice_get, if_pos (by omega)]
  have e : i + (k - i) = k := by omega
  rw [e]
  exact h
/-- from the least of the slice's numbers to the place -/
theorem least_of_min {ns : List Int} {i j : Nat} {m : Int} (hm : m ∈ (ns.drop i).take (j - i)) (hle : ∀ x, x ∈ (ns.drop i).take (j - i) → m ≤ x) : ∃ at', IsLeast ns i j m at' ∧ ∀ l, i ≤ l → l < at' → ns[l]? ≠ some m := by
  obtain ⟨k, k1, k2, k3⟩ := mem_slice hm
  obtain ⟨a, a1, a2, a3, a4⟩ := first_at k k1 k3
  refine ⟨a, ⟨a1, by omega, a3, fun k' x h1 h2 h3 => hle x (in_slice h1 h2 h3), fun k' x h1 h2 h3 => ?_⟩, a4⟩
  have h4 := hle x (in_slice h1 (by omega) h3)
  have h5 : x ≠ m := fun e => a4 k' h1 h2 (by rw [h3, e])
  omega
theorem IsLeast.one {ns : List Int} {i : Nat} {m : Int} (h : ns[i]? = some m) : IsLeast ns i (i + 1) m i :=
  ⟨Nat.le_refl _, Nat.lt_succ_self _, h, fun k x h1 h2 h3 => by
    have e : k = i := by omega
    rw [e, h] at h3
    exact Int.le_of_eq (Option.some.inj h3), fun k x h1 h2 _ => by omega⟩
theorem IsLeast.less {ns : List Int} {i j : Nat} {m x : Int} {a : Nat} (h : IsLeast ns i j m a) (hx : ns[j]? = some x) (hl : x < m) : IsLeast ns i (j + 1) x j :=
  ⟨by have := h.lo; have := h.hi; omega, Nat.lt_succ_self _, hx, fun k y h1 h2 h3 => by
    by_cases e : k = j
    · rw [e, hx] at h3
      exact Int.le_of_eq (Option.some.inj h3)
    · have := h.le k y h1 (by omega) h3
      omega, fun k y h1 h2 h3 => by
    have := h.le k y h1 h2 h3
    omega⟩
theorem IsLeast.more {ns : List Int} {i j : Nat} {m x : Int} {a : Nat} (h : IsLeast ns i j m a) (hx : ns[j]? = some x) (hl : ¬ x < m) : IsLeast ns i (j + 1) m a :=
  ⟨h.lo, by have := h.hi; omega, h.val, fun k y h1 h2 h3 => by
    by_cases e : k = j
    · rw [e, hx] at h3
      have := Option.some.inj h3
      omega
    · exact h.le k y h1 (by omega) h3, h.fst⟩
end VT
/-! ### trees over places -/
namespace VT
open L2
inductive BT where
  | nil : BT
  | node (l r : BT) : BT
def BT.size : BT → Nat
  | .nil => 0
  | .node l r => l.size + 1 + r.size
def oV : Option Nat → V
  | none => .non
  | some n => .int (n : Int)
/-- what stands over each place, from f on, under top -/
def BT.code : BT → Nat → Option Nat → List (Option Nat)
  | .nil, _, _ => []
  | .node l r, f, top => l.code f (some (f + l.size)) ++ top :: r.code (f + l.size + 1) (some (f + l.size))
def BT.codeV (t : BT) (f : Nat) (top : Option Nat) : List V := (t.code f top).map oV
def BT.deep : BT → Nat → List Nat
  | .nil, _ => []
  | .node l r, d => l.deep (d + 1) ++ d :: r.deep (d + 1)
def BT.deepI (t : BT) : List Int := (t.deep 0).map fun (n : Nat) => (n : Int)
theorem BT.code_len : ∀ (t : BT) (f : Nat) (top : Option Nat), (t.code f top).length = t.size
  | .nil, _, _ => rfl
  | .node l r, f, top => by
    show (l.code f (some (f + l.size)) ++ top :: r.code (f + l.size + 1) (some (f + l.size))).length = l.size + 1 + r.size
    rw [List.length_append, List.length_cons, BT.code_len l, BT.code_len r]
    omega
theorem BT.codeV_len (t : BT) (f : Nat) (top : Option Nat) : (t.codeV f top).length = t.size := by
  unfold BT.codeV
  rw [List.length_map, BT.code_len]
theorem BT.deep_len : ∀ (t : BT) (d : Nat), (t.deep d).length = t.size
  | .nil, _ => rfl
  | .node l r, d => by
    show (l.deep (d + 1) ++ d :: r.deep (d + 1)).length = l.size + 1 + r.size
    rw [List.length_append, List.length_cons, BT.deep_len l, BT.deep_len r]
    omega
theorem oV_ok : ∀ x : Option Nat, okV (oV x) = true
  | none => rfl
  | some _ => rfl
theorem BT.codeV_ok (t : BT) (f : Nat) (top : Option Nat) : (t.codeV f top).all okV = true := by
  unfold BT.codeV
  rw [List.all_map]
  exact List.all_eq_true.mpr fun x _ => oV_ok x
theorem oV_inj : ∀ {x y : Option Nat}, oV x = oV y → x = y
  | none, none, _ => rfl
  | none, some _, h => by cases h
  | some _, none, h => by cases h
  | some a, some b, h => by
    have : (a : Int) = (b : Int) := V.int.inj h
    rw [show a = b by omega]
theorem map_oV_inj : ∀ {xs ys : List (Option Nat)}, xs.map oV = ys.map oV → xs = ys
  | [], [], _ => rfl
  | [], _ :: _, h => by cases h
  | _ :: _, [], h => by cases h
  | x :: xs, y :: ys, h => by
    rw [List.map_cons, List.map_cons] at h
    injection h with h1 h2
    rw [oV_inj h1, map_oV_inj h2]
/-- c written over xs from f on -/
def splice {α : Type} (xs : List α) (f : Nat) (c : List α) : List α := xs.take f ++ c ++ xs.drop (f + c.length)
theorem splice_get {α : Type} {xs : List α} {f : Nat} {c : List α} (h : f + c.length ≤ xs.length) (p : Nat) : (splice xs f c)[p]? = if p < f then xs[p]? else if p < f + c.length then c[p - f]? else xs[p]? := by
  unfold splice
  rw [List.append_assoc]
  by_cases h1 : p < f
  · rw [if_pos h1, List.getElem?_append_left (by rw [List.length_take]; omega), List.getElem?_take, if_pos h1]
  · rw [if_neg h1, List.getElem?_append_right (by rw [List.length_take]; omega), List.length_take, Nat.min_eq_left (by omega)]
    by_cases h2 : p < f + c.length
    · rw [if_pos h2, List.getElem?_append_left (by omega)]
    · rw [if_neg h2, List.getElem?_append_right (by omega), List.getElem?_drop]
      congr 1
      omega
theorem splice_len {α : Type} {xs : List α} {f : Nat} {c : List α} (h : f + c.length ≤ xs.length) : (splice xs f c).length = xs.length := by
  unfold splice
  rw [List.length_append, List.length_append, List.length_take, List.length_drop]
  omega
theorem splice_nil {α : Type} (xs : List α) (f : Nat) : splice xs f [] = xs := by
  unfold splice
  rw [List.append_nil]
  exact List.take_append_drop f xs
theorem splice_all {α : Type} {xs c : List α} (h : c.length = xs.length) : splice xs 0 c = c := by
  unfold splice
  rw [List.take_zero, List.nil_append, Nat.zero_add, h, List.drop_length, List.append_nil]
theorem node_get {α : Type} (c1 c2 : List α) (v : α) (i : Nat) : (c1 ++ v :: c2)[i]? = if i < c1.length then c1[i]? else if i = c1.length then some v else c2[i - c1.length - 1]? := by
  by_cases h1 : i < c1.length
  · rw [if_pos h1, List.getElem?_append_left h1]
  · rw [if_neg h1, List.getElem?_append_right (by omega)]
    by_cases h2 : i = c1.length
    · rw [if_pos h2, h2, Nat.sub_self] <;> rfl
    · rw [if_neg h2, show i - c1.length = i - c1.length - 1 + 1 by omega] <;> rfl
/-- the head, then ahead of it, then behind it -/
theorem splice_node {α : Type} {xs c1 c2 : List α} {f : Nat} {v : α} (h : f + c1.length + 1 + c2.length ≤ xs.length) : splice (splice (xs.set (f + c1.length) v) f c1) (f + c1.length + 1) c2 = splice xs f (c1 ++ v :: c2) := by
  have hl : (c1 ++ v :: c2).length = c1.length + 1 + c2.length := by
    rw [List.length_append, List.length_cons]
    omega
  apply List.ext_getElem?
  intro p
  rw [splice_get (by rw [splice_len (by rw [List.length_set]; omega), List.length_set]; omega), splice_get (by rw [List.length_set]; omega), splice_get (by rw [hl]; omega), List.getElem?_set, hl, node_get]
  by_cases h1 : p < f
  · rw [if_pos (by omega), if_pos h1, if_neg (by omega), if_pos h1]
  · rw [if_neg h1, if_neg h1]
    by_cases h2 : p < f + c1.length
    · rw [if_pos (by omega), if_pos h2, if_pos (by omega), if_pos (by omega)]
    · by_cases h3 : p = f + c1.length
      · rw [if_pos (by omega), if_neg h2, if_pos h3.symm, if_pos (by omega), if_pos (by omega), if_neg (by omega), if_pos (by omega)]
      · rw [if_neg (by omega)]
        by_cases h4 : p < f + c1.length + 1 + c2.length
        · rw [if_pos h4, if_pos (by omega), if_neg (by omega), if_neg (by omega)]
          congr 1
          omega
        · rw [if_neg h4, if_neg h2, if_neg (by omega), if_neg (by omega)]
theorem splice_node' {α : Type} {xs c1 c2 : List α} {f : Nat} {v : α} (h : f + c1.length + 1 + c2.length ≤ xs.length) : splice (splice (xs.set (f + c1.length) v) (f + c1.length + 1) c2) f c1 = splice xs f (c1 ++ v :: c2) := by
  have hl : (c1 ++ v :: c2).length = c1.length + 1 + c2.length := by
    rw [List.length_append, List.length_cons]
    omega
  apply List.ext_getElem?
  intro p
  rw [splice_get (by rw [splice_len (by rw [List.length_set]; omega), List.length_set]; omega), splice_get (by rw [List.length_set]; omega), splice_get (by rw [hl]; omega), List.getElem?_set, hl, node_get]
  by_cases h1 : p < f
  · rw [if_pos h1, if_pos (by omega), if_neg (by omega), if_pos h1]
  · rw [if_neg h1, if_neg h1]
    by_cases h2 : p < f + c1.length
    · rw [if_pos h2, if_pos (by omega), if_pos (by omega)]
    · rw [if_neg h2]
      by_cases h3 : p = f + c1.length
      · rw [if_pos (by omega), if_pos h3.symm, if_pos (by omega), if_pos (by omega), if_neg (by omega), if_pos (by omega)]
      · rw [if_neg (by omega)]
        by_cases h4 : p < f + c1.length + 1 + c2.length
        · rw [if_pos h4, if_pos (by omega), if_neg (by omega), if_neg (by omega)]
          congr 1
          omega
        · rw [if_neg h4, if_neg (by omega), if_neg (by omega)]
theorem BT.codeV_node (l r : BT) (f : Nat) (top : Option Nat) : (BT.node l r).codeV f top = l.codeV f (some (f + l.size)) ++ oV top :: r.codeV (f + l.size + 1) (some (f + l.size)) := by
  unfold BT.codeV
  show (l.code f (some (f + l.size)) ++ top :: r.code (f + l.size + 1) (some (f + l.size))).map oV = _
  rw [List.map_append, List.map_cons]
theorem splice_tree {xs : List V} {f : Nat} {l r : BT} {top : Option Nat} (h : f + (BT.node l r).size ≤ xs.length) : splice (splice (xs.set (f + l.size) (oV top)) f (l.codeV f (some (f + l.size)))) (f + l.size + 1) (r.codeV (f + l.size + 1) (some (f + l.size))) = splice xs f ((BT.node l r).codeV f top) := by
  have h' : f + (l.size + 1 + r.size) ≤ xs.length := h
  have e := splice_node (xs := xs) (c1 := l.codeV f (some (f + l.size))) (c2 := r.codeV (f + l.size + 1) (some (f + l.size))) (f := f) (v := oV top) (by rw [BT.codeV_len, BT.codeV_len]; omega)
  rw [BT.codeV_len] at e
  rw [BT.codeV_node]
  exact e
theorem splice_tree' {xs : List V} {f : Nat} {l r : BT} {top : Option Nat} (h : f + (BT.node l r).size ≤ xs.length) : splice (splice (xs.set (f + l.size) (oV top)) (f + l.size + 1) (r.codeV (f + l.size + 1) (some (f + l.size)))) f (l.codeV f (some (f + l.size))) = splice xs f ((BT.node l r).codeV f top) := by
  have h' : f + (l.size + 1 + r.size) ≤ xs.length := h
  have e := splice_node' (xs := xs) (c1 := l.codeV f (some (f + l.size))) (c2 := r.codeV (f + l.size + 1) (some (f + l.size))) (f := f) (v := oV top) (by rw [BT.codeV_len, BT.codeV_len]; omega)
  rw [BT.codeV_len] at e
  rw [BT.codeV_node]
  exact e
/-- the tree of lesser numbers -/
inductive IsCart (ns : List Int) : Nat → Nat → BT → Prop where
  | nil (f : Nat) : IsCart ns f f .nil
  | node {f b h : Nat} {m : Int} {l r : BT} (hm : IsLeast ns f b m h) (hl : IsCart ns f h l) (hr : IsCart ns (h + 1) b r) : IsCart ns f b (.node l r)
theorem IsCart.size {ns : List Int} {f b : Nat} {t : BT} (h : IsCart ns f b t) : f + t.size = b := by
  induction h with
  | nil f => rfl
  | node hm hl hr il ir =>
    show _ + (_ + 1 + _) = _
    omega
theorem IsCart.uniq {ns : List Int} {f b : Nat} {t : BT} (h : IsCart ns f b t) : ∀ {u : BT}, IsCart ns f b u → t = u := by
  induction h with
  | nil f =>
    intro u hu
    cases hu with
    | nil => rfl
    | node hm _ _ =>
      have := hm.lo
      have := hm.hi
      omega
  | node hm hl hr il ir =>
    intro u hu
    cases hu with
    | nil =>
      have := hm.lo
      have := hm.hi
      omega
    | node hm' hl' hr' =>
      obtain ⟨_, e⟩ := hm.uniq hm'
      subst e
      rw [il hl', ir hr']
theorem IsLeast.ex {ns : List Int} {i : Nat} : ∀ {d : Nat}, i + d < ns.length → ∃ m a, IsLeast ns i (i + (d + 1)) m a
  | 0, h => ⟨_, _, IsLeast.one (getD_at' h)⟩
  | d + 1, h => by
    obtain ⟨m, a, hL⟩ := IsLeast.ex (ns := ns) (i := i) (d := d) (by omega)
    have hv := getD_at' (ns := ns) (k := i + (d + 1)) h
    by_cases c : ns.getD (i + (d + 1)) 0 < m
    · exact ⟨_, _, hL.less hv c⟩
    · exact ⟨_, _, hL.more hv c⟩
theorem IsCart.ex {ns : List Int} : ∀ (n f b : Nat), b - f ≤ n → f ≤ b → b ≤ ns.length → ∃ t, IsCart ns f b t
  | 0, f, b, h1, h2, _ => by
    obtain rfl : f = b := by omega
    exact ⟨_, .nil f⟩
  | n + 1, f, b, h1, h2, h3 => by
    by_cases c : f = b
    · subst c
      exact ⟨_, .nil f⟩
    · obtain ⟨m, a, hL⟩ := IsLeast.ex (ns := ns) (i := f) (d := b - f - 1) (by omega)
      rw [show f + (b - f - 1 + 1) = b by omega] at hL
      have g1 := hL.lo
      have g2 := hL.hi
      obtain ⟨l, hl⟩ := IsCart.ex (ns := ns) n f a (by omega) g1 (by omega)
      obtain ⟨r, hr⟩ := IsCart.ex (ns := ns) n (a + 1) b (by omega) (by omega) h3
      exact ⟨_, .node hL hl hr⟩
theorem cart_ex (ns : List Int) : ∃ t, IsCart ns 0 ns.length t := IsCart.ex ns.length 0 ns.length (by omega) (Nat.zero_le _) (Nat.le_refl _)
/-- numbers in like order have like trees -/
theorem IsLeast.like {ns ms : List Int} {i j : Nat} {m : Int} {a : Nat} (h : IsLeast ns i j m a) (hlen : ns.length = ms.length) (hlt : ∀ (p q : Nat) (x y x' y' : Int), i ≤ p → p < j → i ≤ q → q < j → ns[p]? = some x → ns[q]? = some y → ms[p]? = some x' → ms[q]? = some y' → (x ≤ y → x' ≤ y') ∧ (x < y → x' < y')) : ∃ m', IsLeast ms i j m' a := by
  have hal : a < ns.length := (List.getElem?_eq_some_iff.mp h.val).1
  have hv : ms[a]? = some (ms.getD a 0) := getD_at' (by omega)
  have h1 := h.lo
  have h2 := h.hi
  refine ⟨ms.getD a 0, h1, h2, hv, fun k x k1 k2 hk => ?_, fun k x k1 k2 hk => ?_⟩
  · have hkl : k < ms.length := (List.getElem?_eq_some_iff.mp hk).1
    have hk' := getD_at' (ns := ns) (k := k) (by omega)
    exact (hlt a k _ _ _ _ h1 h2 k1 k2 h.val hk' hv hk).1 (h.le k _ k1 k2 hk')
  · have hkl : k < ms.length := (List.getElem?_eq_some_iff.mp hk).1
    have hk' := getD_at' (ns := ns) (k := k) (by omega)
    exact (hlt a k _ _ _ _ h1 h2 k1 (by omega) h.val hk' hv hk).2 (h.fst k _ k1 k2 hk')
theorem IsCart.like {ns ms : List Int} (hlen : ns.length = ms.length) (hlt : ∀ (p q : Nat) (x y x' y' : Int), ns[p]? = some x → ns[q]? = some y → ms[p]? = some x' → ms[q]? = some y' → (x ≤ y → x' ≤ y') ∧ (x < y → x' < y')) {f b : Nat} {t : BT} (h : IsCart ns f b t) : IsCart ms f b t := by
  induction h with
  | nil f => exact .nil f
  | node hm hl hr il ir =>
    obtain ⟨m', h'⟩ := hm.like hlen fun p q x y x' y' _ _ _ _ => hlt p q x y x' y'
    exact .node h' il ir
theorem IsCart.map {ns : List Int} {g : Int → Int} (hg : ∀ x y, (x ≤ y → g x ≤ g y) ∧ (x < y → g x < g y)) {f b : Nat} {t : BT} (h : IsCart ns f b t) : IsCart (ns.map g) f b t :=
  h.like (List.length_map _).symm fun p q x y x' y' h1 h2 h3 h4 => by
    rw [List.getElem?_map, h1] at h3
    rw [List.getElem?_map, h2] at h4
    rw [← Option.some.inj h3, ← Option.some.inj h4]
    exact hg x y
/-- the depths' tree is the tree -/
theorem BT.deep_ge : ∀ (t : BT) (d : Nat) (x : Nat), x ∈ t.deep d → d ≤ x ∧ x < d + t.size
  | .nil, _, _, h => by cases h
  | .node l r, d, x, h => by
    show d ≤ x ∧ x < d + (l.size + 1 + r.size)
    rcases List.mem_append.mp h with e | e
    · have := BT.deep_ge l (d + 1) x e
      omega
    · rcases List.mem_cons.mp e with e | e
      · omega
      · have := BT.deep_ge r (d + 1) x e
        omega
theorem BT.deep_cart : ∀ (t : BT) (d f : Nat) (ns : List Int), (∀ i, i < t.size → ns[f + i]? = ((t.deep d)[i]?).map fun (n : Nat) => (n : Int)) → IsCart ns f (f + t.size) t
  | .nil, _, f, _, _ => .nil f
  | .node l r, d, f, ns, h => by
    have hd : ∀ i, ((BT.node l r).deep d)[i]? = if i < l.size then (l.deep (d + 1))[i]? else if i = l.size then some d else (r.deep (d + 1))[i - l.size - 1]? := fun i => by
      show (l.deep (d + 1) ++ d :: r.deep (d + 1))[i]? = _
      rw [node_get, BT.deep_len]
    have hs : (BT.node l r).size = l.size + 1 + r.size := rfl
    have hl := BT.deep_cart l (d + 1) f ns fun i hi => by
      rw [h i (by omega), hd, if_pos hi]
    have hr := BT.deep_cart r (d + 1) (f + l.size + 1) ns fun i hi => by
      rw [show f + l.size + 1 + i = f + (l.size + 1 + i) by omega, h _ (by omega), hd, if_neg (by omega), if_neg (by omega), show l.size + 1 + i - l.size - 1 = i by omega]
    rw [show f + l.size + 1 + r.size = f + (BT.node l r).size by omega] at hr
    have val : ∀ k x, f ≤ k → k < f + (BT.node l r).size → k ≠ f + l.size → ns[k]? = some x → (d : Int) < x := fun k x k1 k2 k3 hk => by
      have e := h (k - f) (by omega)
      rw [show f + (k - f) = k by omega, hk, hd] at e
      by_cases c : k - f < l.size
      · rw [if_pos c] at e
        cases g : (l.deep (d + 1))[k - f]? with
        | none => rw [g] at e; cases e
        | some y =>
          rw [g] at e
          have := (BT.deep_ge l (d + 1) y (List.mem_of_getElem? g)).1
          have : x = (y : Int) := Option.some.inj e
          omega
      · rw [if_neg c, if_neg (by omega)] at e
        cases g : (r.deep (d + 1))[k - f - l.size - 1]? with
        | none => rw [g] at e; cases e
        | some y =>
          rw [g] at e
          have := (BT.deep_ge r (d + 1) y (List.mem_of_getElem? g)).1
          have : x = (y : Int) := Option.some.inj e
          omega
    have hv : ns[f + l.size]? = some (d : Int) := by
      rw [h _ (by omega), hd, if_neg (by omega), if_pos rfl] <;> rfl
    refine .node (m := (d : Int)) ⟨by omega, by omega, hv, fun k x k1 k2 hk => ?_, fun k x k1 k2 hk => ?_⟩ hl hr
    · by_cases c : k = f + l.size
      · rw [c, hv] at hk
        exact Int.le_of_eq (Option.some.inj hk)
      · have := val k x k1 k2 c hk
        omega
    · exact val k x k1 (by omega) (by omega) hk
theorem BT.deepI_len (t : BT) : t.deepI.length = t.size := by
  unfold BT.deepI
  rw [List.length_map, BT.deep_len]
theorem BT.deepI_cart (t : BT) : IsCart t.deepI 0 t.deepI.length t := by
  have h := BT.deep_cart t 0 0 t.deepI fun i _ => by
    unfold BT.deepI
    rw [Nat.zero_add, List.getElem?_map]
  rw [Nat.zero_add] at h
  rw [BT.deepI_len]
  exact h
/-- how places hang -/
theorem BT.links : ∀ (t : BT) (f d : Nat) (top : Option Nat) (i : Nat), i < t.size → ((t.code f top)[i]? = some top ∧ (t.deep d)[i]? = some d) ∨ ∃ j e, (t.code f top)[i]? = some (some (f + j)) ∧ j < t.size ∧ (t.deep d)[j]? = some e ∧ (t.deep d)[i]? = some (e + 1)
  | .nil, _, _, _, _, h => absurd h (Nat.not_lt_zero _)
  | .node l r, f, d, top, i, h => by
    have hs : (BT.node l r).size = l.size + 1 + r.size := rfl
    have hd : ∀ i, ((BT.node l r).deep d)[i]? = if i < l.size then (l.deep (d + 1))[i]? else if i = l.size then some d else (r.deep (d + 1))[i - l.size - 1]? := fun i => by
      show (l.deep (d + 1) ++ d :: r.deep (d + 1))[i]? = _
      rw [node_get, BT.deep_len]
    have hc : ∀ i, ((BT.node l r).code f top)[i]? = if i < l.size then (l.code f (some (f + l.size)))[i]? else if i = l.size then some top else (r.code (f + l.size + 1) (some (f + l.size)))[i - l.size - 1]? := fun i => by
      show (l.code f (some (f + l.size)) ++ top :: r.code (f + l.size + 1) (some (f + l.size)))[i]? = _
      rw [node_get, BT.code_len]
    by_cases c1 : i < l.size
    · rcases BT.links l f (d + 1) (some (f + l.size)) i c1 with ⟨a, b⟩ | ⟨j, e, a, b, c, g⟩
      · exact .inr ⟨l.size, d, by rw [hc, if_pos c1, a], by omega, by rw [hd, if_neg (by omega), if_pos rfl], by rw [hd, if_pos c1, b]⟩
      · exact .inr ⟨j, e, by rw [hc, if_pos c1, a], by omega, by rw [hd, if_pos b, c], by rw [hd, if_pos c1, g]⟩
    · by_cases c2 : i = l.size
      · exact .inl ⟨by rw [hc, if_neg c1, if_pos c2], by rw [hd, if_neg c1, if_pos c2]⟩
      · rcases BT.links r (f + l.size + 1) (d + 1) (some (f + l.size)) (i - l.size - 1) (by omega) with ⟨a, b⟩ | ⟨j, e, a, b, c, g⟩
        · exact .inr ⟨l.size, d, by rw [hc, if_neg c1, if_neg c2, a], by omega, by rw [hd, if_neg (by omega), if_pos rfl], by rw [hd, if_neg c1, if_neg c2, b]⟩
        · exact .inr ⟨l.size + 1 + j, e, by rw [hc, if_neg c1, if_neg c2, a, show f + l.size + 1 + j = f + (l.size + 1 + j) by omega], by omega, by rw [hd, if_neg (by omega), if_neg (by omega), show l.size + 1 + j - l.size - 1 = j by omega, c], by rw [hd, if_neg c1, if_neg c2, g]⟩
/-- climbing -/
def climb (xs : List V) : Nat → Nat → Nat → Option Nat
  | 0, _, deep => some deep
  | k + 1, at', deep => match xs[at']? with
    | some (.int j) => if 0 ≤ j ∧ j < (xs.length : Int) then climb xs k j.toNat (deep + 1) else none
    | _ => some deep
theorem climb_tree (t : BT) : ∀ (e k deep i : Nat), (t.deep 0)[i]? = some e → e < k → climb (t.codeV 0 none) k i deep = some (deep + e)
  | _, 0, _, _, _, h => absurd h (Nat.not_lt_zero _)
  | e, k + 1, deep, i, he, hk => by
    have hi : i < t.size := by
      have := (List.getElem?_eq_some_iff.mp he).1
      rw [BT.deep_len] at this
      exact this
    unfold climb
    have hx : (t.codeV 0 none)[i]? = ((t.code 0 none)[i]?).map oV := by
      unfold BT.codeV
      rw [List.getElem?_map]
    rcases BT.links t 0 0 none i hi with ⟨a, b⟩ | ⟨j, e', a, b, c, g⟩
    · rw [hx, a]
      rw [b] at he
      have := Option.some.inj he
      show some deep = some (deep + e)
      rw [← this, Nat.add_zero]
    · rw [hx, a, Nat.zero_add]
      show (if 0 ≤ (j : Int) ∧ (j : Int) < ((t.codeV 0 none).length : Int) then climb (t.codeV 0 none) k (j : Int).toNat (deep + 1) else none) = some (deep + e)
      rw [g] at he
      have he' := Option.some.inj he
      rw [BT.codeV_len, if_pos ⟨by omega, by omega⟩, Int.toNat_natCast, climb_tree t e' k (deep + 1) j c (by omega), ← he']
      congr 1
      omega
def depthsTo (xs : List V) : Nat → Option (List Nat)
  | 0 => some []
  | i + 1 => match depthsTo xs i with
    | none => none
    | some ds => match climb xs (xs.length + 1) i 0 with
      | none => none
      | some d => some (ds ++ [d])
theorem depthsTo_tree (t : BT) : ∀ i, i ≤ t.size → depthsTo (t.codeV 0 none) i = some ((t.deep 0).take i)
  | 0, _ => by
    rw [List.take_zero]
    rfl
  | i + 1, h => by
    have ih := depthsTo_tree t i (by omega)
    have hil : i < (t.deep 0).length := by
      rw [BT.deep_len]
      omega
    have hg : (t.deep 0)[i]? = some ((t.deep 0)[i]'hil) := List.getElem?_eq_getElem hil
    have hb := (BT.deep_ge t 0 _ (List.mem_of_getElem? hg)).2
    unfold depthsTo
    rw [ih, climb_tree t _ _ 0 i hg (by rw [BT.codeV_len]; omega), Nat.zero_add, take_more hg]
theorem depthsTo_len {xs : List V} : ∀ {i : Nat} {ds : List Nat}, depthsTo xs i = some ds → ds.length = i
  | 0, ds, h => by
    rw [← Option.some.inj h] <;> rfl
  | i + 1, ds, h => by
    unfold depthsTo at h
    cases e : depthsTo xs i with
    | none => rw [e] at h; cases h
    | some es =>
      rw [e] at h
      cases g : climb xs (xs.length + 1) i 0 with
      | none => rw [g] at h; cases h
      | some d =>
        rw [g] at h
        rw [← Option.some.inj h, List.length_append, depthsTo_len e] <;> rfl
def natI (ds : List Nat) : List Int := ds.map fun (n : Nat) => (n : Int)
theorem natI_len (ds : List Nat) : (natI ds).length = ds.length := List.length_map _
theorem natI_snoc (ds : List Nat) (e : Nat) : natI (ds ++ [e]) = natI ds ++ [(e : Int)] := by
  unfold natI
  rw [List.map_append]
  rfl
/-- what a tree is -/
def IsTree (xs : List V) : Prop := ∃ t : BT, xs = t.codeV 0 none
theorem isTree_deep {xs : List V} (h : IsTree xs) : ∃ t : BT, xs = t.codeV 0 none ∧ depthsTo xs xs.length = some (t.deep 0) ∧ IsCart (natI (t.deep 0)) 0 xs.length t := by
  obtain ⟨t, rfl⟩ := h
  refine ⟨t, rfl, ?_, ?_⟩
  · rw [BT.codeV_len, depthsTo_tree t t.size (Nat.le_refl _), List.take_of_length_le (by rw [BT.deep_len]; exact Nat.le_refl _)]
  · have := BT.deepI_cart t
    rw [BT.deepI_len] at this
    rw [BT.codeV_len]
    exact this
end VT
/-! ### going up -/
namespace VT
open L2
def BT.path : BT → Nat → Nat → List Nat
  | .nil, _, _ => []
  | .node l r, f, p => if p < f + l.size then l.path f p ++ [f + l.size] else if p = f + l.size then [f + l.size] else r.path (f + l.size + 1) p ++ [f + l.size]
theorem BT.path_in : ∀ (t : BT) (f p q : Nat), q ∈ t.path f p → f ≤ q ∧ q < f + t.size
  | .nil, _, _, _, h => by cases h
  | .node l r, f, p, q, h => by
    have hs : (BT.node l r).size = l.size + 1 + r.size := rfl
    unfold BT.path at h
    split at h
    · rcases List.mem_append.mp h with e | e
      · have := BT.path_in l f p q e
        omega
      · rw [List.mem_singleton.mp e]
        omega
    · split at h
      · rw [List.mem_singleton.mp h]
        omega
      · rcases List.mem_append.mp h with e | e
        · have := BT.path_in r (f + l.size + 1) p q e
          omega
        · rw [List.mem_singleton.mp e]
          omega
theorem BT.path_start : ∀ (t : BT) (f p : Nat), f ≤ p → p < f + t.size → (t.path f p)[0]? = some p
  | .nil, f, p, h1, h2 => absurd h2 (by show ¬ p < f + 0; omega)
  | .node l r, f, p, h1, h2 => by
    have hs : (BT.node l r).size = l.size + 1 + r.size := rfl
    have app : ∀ (xs : List Nat) (h : Nat), xs[0]? = some p → (xs ++ [h])[0]? = some p := fun xs h e => by
      rw [List.getElem?_append_left (List.getElem?_eq_some_iff.mp e).1, e]
    unfold BT.path
    by_cases c : p < f + l.size
    · rw [if_pos c]
      exact app _ _ (BT.path_start l f p h1 c)
    · rw [if_neg c]
      by_cases c2 : p = f + l.size
      · rw [if_pos c2, c2] <;> rfl
      · rw [if_neg c2]
        exact app _ _ (BT.path_start r _ p (by omega) (by omega))
theorem BT.path_len : ∀ (t : BT) (f p : Nat), (t.path f p).length ≤ t.size
  | .nil, _, _ => Nat.le_refl _
  | .node l r, f, p => by
    have hs : (BT.node l r).size = l.size + 1 + r.size := rfl
    have h1 := BT.path_len l f p
    have h2 := BT.path_len r (f + l.size + 1) p
    unfold BT.path
    split
    · rw [List.length_append, List.length_singleton]
      omega
    · split
      · rw [List.length_singleton]
        omega
      · rw [List.length_append, List.length_singleton]
        omega
def orTop (top : Option Nat) : Option Nat → Option Nat
  | some q => some q
  | none => top
theorem snoc_get {xs : List Nat} {h k : Nat} : (xs ++ [h])[k]? = if k < xs.length then xs[k]? else if k = xs.length then some h else none := by
  by_cases c : k < xs.length
  · rw [if_pos c, List.getElem?_append_left c]
  · rw [if_neg c, List.getElem?_append_right (by omega)]
    by_cases e : k = xs.length
    · rw [if_pos e, e, Nat.sub_self] <;> rfl
    · rw [if_neg e, List.getElem?_eq_none (by rw [List.length_singleton]; omega)]
theorem BT.path_link : ∀ (t : BT) (f p k q : Nat) (top : Option Nat), (t.path f p)[k]? = some q → (t.code f top)[q - f]? = some (orTop top ((t.path f p)[k + 1]?))
  | .nil, _, _, _, _, _, h => by cases h
  | .node l r, f, p, k, q, top, h => by
    have hc : ∀ i, ((BT.node l r).code f top)[i]? = if i < l.size then (l.code f (some (f + l.size)))[i]? else if i = l.size then some top else (r.code (f + l.size + 1) (some (f + l.size)))[i - l.size - 1]? := fun i => by
      show (l.code f (some (f + l.size)) ++ top :: r.code (f + l.size + 1) (some (f + l.size)))[i]? = _
      rw [node_get, BT.code_len]
    have sn : ∀ (xs : List Nat) (k : Nat), k < xs.length → orTop top ((xs ++ [f + l.size])[k + 1]?) = orTop (some (f + l.size)) (xs[k + 1]?) := fun xs k hk => by
      rw [snoc_get]
      by_cases c : k + 1 < xs.length
      · rw [if_pos c, List.getElem?_eq_getElem c] <;> rfl
      · rw [if_neg c, if_pos (by omega), List.getElem?_eq_none (by omega)] <;> rfl
    rw [hc]
    unfold BT.path at h ⊢
    by_cases c : p < f + l.size
    · rw [if_pos c] at h ⊢
      by_cases e : k < (l.path f p).length
      · rw [snoc_get, if_pos e] at h
        have hin := BT.path_in l f p q (List.mem_of_getElem? h)
        rw [if_pos (by omega), BT.path_link l f p k q (some (f + l.size)) h, sn _ _ e]
      · rw [snoc_get, if_neg e] at h
        by_cases e2 : k = (l.path f p).length
        · rw [if_pos e2] at h
          obtain rfl := Option.some.inj h
          rw [if_neg (by omega), if_pos (by omega), snoc_get, if_neg (by omega), if_neg (by omega)] <;> rfl
        · rw [if_neg e2] at h
          cases h
    · rw [if_neg c] at h ⊢
      by_cases c2 : p = f + l.size
      · rw [if_pos c2] at h ⊢
        cases k with
        | zero =>
          obtain rfl := Option.some.inj h
          rw [if_neg (by omega), if_pos (by omega)] <;> rfl
        | succ k => cases h
      · rw [if_neg c2] at h ⊢
        by_cases e : k < (r.path (f + l.size + 1) p).length
        · rw [snoc_get, if_pos e] at h
          have hin := BT.path_in r _ p q (List.mem_of_getElem? h)
          have ih := BT.path_link r (f + l.size + 1) p k q (some (f + l.size)) h
          rw [if_neg (by omega), if_neg (by omega), show q - f - l.size - 1 = q - (f + l.size + 1) by omega, ih, sn _ _ e]
        · rw [snoc_get, if_neg e] at h
          by_cases e2 : k = (r.path (f + l.size + 1) p).length
          · rw [if_pos e2] at h
            obtain rfl := Option.some.inj h
            rw [if_neg (by omega), if_pos (by omega), snoc_get, if_neg (by omega), if_neg (by omega)] <;> rfl
          · rw [if_neg e2] at h
            cases h
/-- the first place of one path that stands on the other -/
def shared (xs ys : List Nat) : List Nat := xs.filter fun x => decide (x ∈ ys)
theorem shared_snoc {xs ys : List Nat} {h g : Nat} (h1 : h ∉ xs) (e : (shared xs ys).head? = some g) : (shared (xs ++ [h]) (ys ++ [h])).head? = some g := by
  have e1 : ∀ x ∈ xs, (decide (x ∈ ys ++ [h])) = decide (x ∈ ys) := fun x hx => decide_eq_decide.mpr ⟨fun z => by
    rcases List.mem_append.mp z with z | z
    · exact z
    · rw [List.mem_singleton.mp z] at hx
      exact absurd hx h1, fun z => List.mem_append_left _ z⟩
  unfold shared at e ⊢
  rw [List.filter_append, List.filter_congr e1, List.head?_append, e]
  rfl
theorem IsLeast.sub {ns : List Int} {f b i j : Nat} {m : Int} {h : Nat} (hL : IsLeast ns f b m h) (h1 : f ≤ i) (h2 : i ≤ h) (h3 : h < j) (h4 : j ≤ b) : IsLeast ns i j m h :=
  ⟨h2, h3, hL.val, fun k x k1 k2 hk => hL.le k x (by omega) (by omega) hk, fun k x k1 k2 hk => hL.fst k x (by omega) k2 hk⟩
theorem shared_least {ns : List Int} {f b : Nat} {t : BT} (hC : IsCart ns f b t) : ∀ {i j : Nat}, f ≤ i → i ≤ j → j < b → ∃ m h, IsLeast ns i (j + 1) m h ∧ (shared (t.path f i) (t.path f j)).head? = some h := by
  induction hC with
  | nil f =>
    intro i j h1 h2 h3
    omega
  | @node f b h m l r hm hl hr il ir =>
    intro i j h1 h2 h3
    have g1 := hm.lo
    have g2 := hm.hi
    have hls := hl.size
    have hrs := hr.size
    have hp : ∀ p, (BT.node l r).path f p = if p < h then l.path f p ++ [h] else if p = h then [h] else r.path (h + 1) p ++ [h] := fun p => by
      show (if p < f + l.size then l.path f p ++ [f + l.size] else if p = f + l.size then [f + l.size] else r.path (f + l.size + 1) p ++ [f + l.size]) = _
      rw [hls]
    rw [hp, hp]
    by_cases c1 : j < h
    · rw [if_pos c1, if_pos (by omega)]
      obtain ⟨m', h', hL, he⟩ := il h1 h2 c1
      exact ⟨m', h', hL, shared_snoc (fun z => by have := BT.path_in l f i h z; omega) he⟩
    · by_cases c2 : h < i
      · rw [if_neg (by omega), if_neg (by omega), if_neg (by omega), if_neg (by omega)]
        obtain ⟨m', h', hL, he⟩ := ir (by omega) h2 h3
        exact ⟨m', h', hL, shared_snoc (fun z => by have := BT.path_in r (h + 1) i h z; omega) he⟩
      · refine ⟨m, h, hm.sub h1 (by omega) (by omega) (by omega), ?_⟩
        have hj : ∀ x, x ∈ (if j < h then l.path f j ++ [h] else if j = h then [h] else r.path (h + 1) j ++ [h]) → h ≤ x := fun x hx => by
          rw [if_neg c1] at hx
          by_cases e : j = h
          · rw [if_pos e] at hx
            rw [List.mem_singleton.mp hx]
            exact Nat.le_refl _
          · rw [if_neg e] at hx
            rcases List.mem_append.mp hx with z | z
            · have := BT.path_in r (h + 1) j x z
              omega
            · rw [List.mem_singleton.mp z]
              exact Nat.le_refl _
        have hjh : h ∈ (if j < h then l.path f j ++ [h] else if j = h then [h] else r.path (h + 1) j ++ [h]) := by
          rw [if_neg c1]
          by_cases e : j = h
          · rw [if_pos e]
            exact List.mem_singleton.mpr rfl
          · rw [if_neg e]
            exact List.mem_append_right _ (List.mem_singleton.mpr rfl)
        have one : shared [h] (if j < h then l.path f j ++ [h] else if j = h then [h] else r.path (h + 1) j ++ [h]) = [h] := by
          unfold shared
          rw [List.filter_cons, if_pos (decide_eq_true hjh)] <;> rfl
        by_cases e : i < h
        · rw [if_pos e]
          have none' : shared (l.path f i) (if j < h then l.path f j ++ [h] else if j = h then [h] else r.path (h + 1) j ++ [h]) = [] := by
            unfold shared
            refine List.filter_eq_nil_iff.mpr fun x hx z => ?_
            have a := BT.path_in l f i x hx
            have b := hj x (of_decide_eq_true z)
            omega
          unfold shared at none' one ⊢
          rw [List.filter_append, none', one] <;> rfl
        · rw [if_neg e, if_pos (by omega), one] <;> rfl
/-- what stands over a place is no greater, and lesser where it stands behind -/
theorem IsCart.links {ns : List Int} {f b : Nat} {t : BT} (hC : IsCart ns f b t) : b ≤ ns.length → ∀ (top : Option Nat) (i : Nat), f ≤ i → i < b → (t.code f top)[i - f]? = some top ∨ ∃ q x y, (t.code f top)[i - f]? = some (some q) ∧ q < b ∧ ns[q]? = some x ∧ ns[i]? = some y ∧ x ≤ y ∧ (i < q → x < y) := by
  induction hC with
  | nil f =>
    intro _ top i h1 h2
    omega
  | @node f b h m l r hm hl hr il ir =>
    intro hb top i h1 h2
    have g1 := hm.lo
    have g2 := hm.hi
    have hls := hl.size
    have hrs := hr.size
    have hc : ((BT.node l r).code f top)[i - f]? = if i < h then (l.code f (some h))[i - f]? else if i = h then some top else (r.code (h + 1) (some h))[i - (h + 1)]? := by
      show (l.code f (some (f + l.size)) ++ top :: r.code (f + l.size + 1) (some (f + l.size)))[i - f]? = _
      rw [node_get, BT.code_len, hls]
      by_cases c1 : i < h
      · rw [if_pos (by omega), if_pos c1]
      · by_cases c2 : i = h
        · rw [if_neg (by omega), if_pos (by omega), if_neg c1, if_pos c2]
        · rw [if_neg (by omega), if_neg (by omega), if_neg c1, if_neg c2, show i - f - l.size - 1 = i - (h + 1) by omega]
    have hi := getD_at' (ns := ns) (k := i) (by omega)
    rw [hc]
    have head : i ≠ h → m ≤ ns.getD i 0 ∧ (i < h → m < ns.getD i 0) := fun _ => ⟨hm.le i _ h1 h2 hi, fun z => hm.fst i _ h1 z hi⟩
    by_cases c1 : i < h
    · rw [if_pos c1]
      rcases il (by omega) (some h) i h1 c1 with e | ⟨q, x, y, e1, e2, e3, e4, e5, e6⟩
      · exact .inr ⟨h, m, _, e, g2, hm.val, hi, (head (by omega)).1, (head (by omega)).2⟩
      · exact .inr ⟨q, x, y, e1, by omega, e3, e4, e5, e6⟩
    · rw [if_neg c1]
      by_cases c2 : i = h
      · rw [if_pos c2]
        exact .inl rfl
      · rw [if_neg c2]
        rcases ir hb (some h) i (by omega) h2 with e | ⟨q, x, y, e1, e2, e3, e4, e5, e6⟩
        · exact .inr ⟨h, m, _, e, g2, hm.val, hi, (head c2).1, (head c2).2⟩
        · exact .inr ⟨q, x, y, e1, e2, e3, e4, e5, e6⟩
end VT
local macro_rules | `(tactic| walk_at "ne") => `(tactic| first | assumption | exact Ne.symm (by assumption) | ((refine' VT.ne_new ?h1 ?h2); (case h1 => assumption); (case h2 => walk_at "hp")) | ((refine' VT.ne_new' ?h1 ?h2); (case h1 => assumption); (case h2 => walk_at "hp")))
local macro_rules | `(tactic| walk_at "hp") => `(tactic| first | assumption | exact L2.upd_same | ((refine' VT.up_get ?n ?h); (case n => walk_at "ne"); (case h => walk_at "hp")) | ((refine' VT.Same.get ?e ?h); (case e => assumption); (case h => walk_at "hp")) | ((refine' VT.But.get ?e ?n ?h); (case e => assumption); (case n => walk_at "ne"); (case h => walk_at "hp")))
local macro_rules | `(tactic| walk_at "fr") => `(tactic| first | assumption | ((refine' L2.Same.free ?e ?h); (case h => assumption); (case e => walk_at "sm")))
local macro_rules | `(tactic| walk_at "sm") => `(tactic| first | assumption | exact L2.Same.refl _ | ((refine' VT.same_new2 ?e ?h); (case h => assumption); (case e => walk_at "sm")) | ((refine' VT.same_mut ?e ?h); (case h => walk_at "fr"); (case e => walk_at "sm")) | ((refine' L2.Same.trans ?a ?b); (case b => assumption); (case a => walk_at "sm")) | ((refine' VT.same_but ?a ?b ?c); (case b => assumption); (case c => walk_at "fr"); (case a => walk_at "sm")))
local macro_rules | `(tactic| walk_at "sq") => `(tactic| first | assumption | ((refine' VT.SqL.lst ?h); (case h => walk_at "hp")) | ((refine' L2.Same.seq ?e ?h); (case h => assumption); (case e => walk_at "sm")))
local macro_rules | `(tactic| walk_at "sqT") => `(tactic| first | assumption | ((refine' VT.SqT.tup ?h); (case h => walk_at "hp")) | ((refine' VT.same_seqT ?e ?h); (case h => assumption); (case e => walk_at "sm")))
local macro_rules | `(tactic| walk_at "cond") => `(tactic| first | omega | (show (0 : Int) < _; omega) | exact ⟨by omega, by omega, by omega, by omega⟩ | exact ⟨by decide, by decide⟩ | exact ⟨by omega, by omega⟩ | exact Or.inl ⟨by omega, by omega⟩ | exact Or.inr ⟨by omega, by omega⟩ | exact ⟨by omega, by omega, by omega⟩ | decide)
local macro_rules | `(tactic| walk_at "go1") => `(tactic| first
  | with_reducible refine' VT.r_seq ?_ | with_reducible refine' VT.r_asg ?_ | with_reducible refine' VT.r_name ?_ | with_reducible refine' VT.r_sub ?_ | ((with_reducible refine' VT.r_var ?h ?_); (case h => exact rfl)) | with_reducible refine' VT.r_c ?_
  | with_reducible refine' VT.r_op ?_ | with_reducible refine' VT.r_I0 ?_ | with_reducible refine' VT.r_eqI ?_ | with_reducible refine' VT.r_neI ?_ | with_reducible refine' VT.r_eqB ?_ | with_reducible refine' VT.r_neB ?_
  | with_reducible refine' VT.r_test ?_ | with_reducible refine' VT.r_B ?_ | with_reducible refine' VT.r_bl ?_ | with_reducible refine' VT.r_cons ?_ | with_reducible refine' VT.r_nil ?_ | with_reducible refine' VT.r_CB ?_ | with_reducible refine' VT.r_call ?_
  | ((with_reducible refine' VT.r_I ?c ?_); (case c => walk_at "cond")) | ((with_reducible refine' VT.r_lenI ?s ?_); (case s => walk_at "sq")) | ((with_reducible refine' VT.r_len ?s ?_); (case s => walk_at "sq")) | ((with_reducible refine' VT.r_lenT ?s ?_); (case s => walk_at "sqT")) | ((with_reducible refine' VT.r_ixL ?s ?a ?_); (case s => walk_at "sq"); (case a => walk_at "at")) | ((with_reducible refine' VT.r_ixT ?s ?a ?_); (case s => walk_at "sqT"); (case a => walk_at "at"))
  | with_reducible refine' VT.r_for1 ?_ | ((with_reducible refine' VT.r_rng1 ?c ?_); (case c => walk_at "cond")) | with_reducible refine' VT.r_for2 ?_ | ((with_reducible refine' VT.r_rng2 ?c ?_); (case c => walk_at "cond")) | with_reducible refine' VT.r_forL ?_ | ((with_reducible refine' VT.r_itL ?s ?_); (case s => walk_at "sq")) | with_reducible refine' VT.r_forC ?_ | with_reducible refine' VT.r_rg1 ?_ | with_reducible refine' VT.r_rg2 ?_ | with_reducible refine' VT.r_ij ?_ | ((with_reducible refine' VT.r_rngC ?c ?_); (case c => walk_at "cond")) | with_reducible refine' VT.r_listRev ?_ | ((with_reducible refine' VT.r_revOf ?s ?_); (case s => walk_at "sq")) | with_reducible refine' VT.r_forT ?_ | ((with_reducible refine' VT.r_itT ?s ?_); (case s => walk_at "sqT"))
  | with_reducible refine' VT.r_lc1 ?_ | with_reducible refine' VT.r_lc2 ?_ | with_reducible refine' VT.r_lcL ?_ | with_reducible refine' VT.r_yes ?_
  | with_reducible refine' VT.r_drop ?_ | with_reducible refine' VT.r_ret ?_ | with_reducible refine' VT.r_retN ?_ | with_reducible refine' VT.r_if ?_ | with_reducible refine' VT.r_next ?_ | with_reducible refine' VT.r_chain ?_ | with_reducible refine' VT.r_chain3 ?_ | with_reducible refine' VT.r_sFld ?_ | with_reducible refine' VT.r_not ?_
  | with_reducible refine' VT.r_andV ?_ | with_reducible refine' VT.r_orV ?_ | with_reducible refine' VT.r_notV ?_ | with_reducible refine' VT.r_ifE ?_ | with_reducible refine' VT.r_lst ?_ | with_reducible refine' VT.r_tup ?_ | with_reducible refine' VT.r_sl ?_ | with_reducible refine' VT.r_part ?_ | with_reducible refine' VT.r_int ?_ | with_reducible refine' VT.r_noPart ?_
  | with_reducible refine' VT.r_bm ?_ | with_reducible refine' VT.r_bm0 ?_ | with_reducible refine' VT.r_fld ?_ | with_reducible refine' VT.r_un ?_ | with_reducible refine' VT.r_U ?_ | with_reducible refine' VT.r_isN ?_ | with_reducible refine' VT.r_notN ?_ | with_reducible refine' VT.r_meth ?_ | with_reducible refine' VT.r_make ?_
  | ((with_reducible refine' VT.r_tyL ?s ?_); (case s => walk_at "sq")) | ((with_reducible refine' VT.r_app ?h ?z ?_); (case h => walk_at "hp"); (case z => walk_at "len")) | ((with_reducible refine' VT.r_fldR ?h ?c ?n ?_); (case h => walk_at "hp"); (case c => assumption); (case n => assumption)) | ((with_reducible refine' VT.r_methR ?h ?m ?_); (case h => walk_at "hp"); (case m => decide +kernel)) | ((with_reducible refine' VT.r_new ?z ?_); (case z => exact Nat.le_of_ble_eq_true rfl)))
local macro_rules | `(tactic| walk_at "andor") => `(tactic| first | with_reducible refine' VT.r_and ?_ | with_reducible refine' VT.r_or ?_)
local macro_rules | `(tactic| walk_at "go") => `(tactic| repeat walk_at "go1")
local macro_rules | `(tactic| walk_at "at") => `(tactic| first | assumption | exact L2.atI_nat (by assumption) | exact VT.r_at (by assumption) (by assumption) | exact VT.r_at (by omega) (by assumption) | exact VT.r_at rfl (by assumption) | exact VT.r_at (j := 0) rfl rfl | exact VT.r_at (j := 1) rfl rfl | exact VT.r_at (j := 2) rfl rfl)
local macro_rules | `(tactic| walk_at "len") => `(tactic| (simp only [List.length_map, List.length_append, List.length_cons, List.length_nil, List.length_take, List.length_drop, List.length_replicate]; omega))
local macro_rules | `(tactic| walk_at "and") => `(tactic| ((with_reducible refine' VT.r_andD ?a ?b ?_); (case a => intro Z h; walk_at "go"; exact h); (case b => intro Z h; walk_at "go"; exact h)))
local macro_rules | `(tactic| walk_at "or") => `(tactic| ((with_reducible refine' VT.r_orD ?a ?b ?_); (case a => intro Z h; walk_at "go"; exact h); (case b => intro Z h; walk_at "go"; exact h)))
local macro_rules | `(tactic| walk_at "and") => `(tactic| ((with_reducible refine' VT.r_andD ?a ?b ?_); (case a => (intro Z h); (walk_at "go"); exact h); (case b => (intro Z h); (walk_at "go"); exact h)))
local macro_rules | `(tactic| walk_at "or") => `(tactic| ((with_reducible refine' VT.r_orD ?a ?b ?_); (case a => (intro Z h); (walk_at "go"); exact h); (case b => (intro Z h); (walk_at "go"); exact h)))
namespace VT
open PySem PySem.Spec PyProof.Rows L2
def top (i : Nat) : Stmt := PySem.Challenge.pw_valleytree_k06_whole_leasts_by_the_tree.main.body.getD i (.Pass ⟨0, 0, 0, 0⟩)
abbrev s_Row___init__ : Stmt := inClass (top 8) 0
abbrev s_Row_ask : Stmt := inClass (top 8) 1
abbrev s_Row_ask_stretch : Stmt := inClass (top 8) 2
abbrev s_Row_numbers : Stmt := inClass (top 8) 3
abbrev s_Row_set_at : Stmt := inClass (top 8) 4
abbrev s_Row_take_out : Stmt := inClass (top 8) 5
abbrev s_Row_put_in : Stmt := inClass (top 8) 6
abbrev s_Row_add_to : Stmt := inClass (top 8) 7
abbrev s_over : Stmt := top 10
abbrev s_tree_over : Stmt := top 11
abbrev s_tree_of : Stmt := top 12
abbrev s_least : Stmt := top 14
abbrev s__law_cell_at : Stmt := top 16
abbrev s__law_whole : Stmt := top 17
abbrev s__law_draw : Stmt := top 18
abbrev s__law_row : Stmt := top 19
abbrev s__law_places : Stmt := top 20
abbrev s__law_up : Stmt := top 21
abbrev s__law_all_right : Stmt := top 22
abbrev s__law_deed : Stmt := top 23
abbrev s_law : Stmt := top 24
structure Txt (K : PySem.W.Frag) (mg : Str → Option Value) (C : Addr) : Prop where
  cl : Cls K C
  nK : NoAttr K C "kept"
  mgC : mg "Row" = some (.ref C)
  b_bool : mg "bool" = none
  b_int : mg "int" = none
  b_isinstance : mg "isinstance" = none
  b_len : mg "len" = none
  b_list : mg "list" = none
  b_min : mg "min" = none
  b_range : mg "range" = none
  g_MOST : ∃ u, mg "MOST" = some u ∧ RelV (.int 40) u
section
variable {P : Program} {w : World} {K : PySem.W.Frag} {mg : Str → Option Value} {base : Heap} {C : Addr}
theorem sc_Row___init__ : FnScope ["self", "numbers"] ["self", "numbers"] (defScope s_Row___init__) := ⟨rfl, rfl, rfl, by decide +kernel, rfl, by decide +kernel, by decide +kernel⟩
def sp_Row___init__ (K : PySem.W.Frag) (C : Addr) : Sp := fun vs H Q _ => ∃ (p dx a : Addr) (ns : List Int), vs = [.ref p, .ref a] ∧ H p = some (.ins C dx []) ∧ SqL K H a (ns.map V.int) ∧ ns.length ≤ 40 ∧
  ∀ (l : Addr) (H' : Hp), H l = none → But p H H' → H' p = some (.ins C dx (rowF l)) → H' l = some (.lst (ns.map V.int)) → Q .non H'
theorem ok_Row___init__ {f : Addr} {fd : FuncData} (F : Fun K "__init__" "Row.__init__" s_Row___init__ f fd) (T : Txt K mg C)  : FnOk P w K mg base CX0 1 f fd ["self", "numbers"] (sp_Row___init__ K C) := by
  refine F.ok sc_Row___init__ (fun vs H Q E h => ?_) (fun cdv A outer s H vs Q E hr h => ?_)
  · obtain ⟨p, dx, a, ns, rfl, hp, hS, hl, q⟩ := h
    rfl
  · obtain ⟨p, dx, a, ns, rfl, hp, hS, hl, q⟩ := h
    have hcl := T.cl
    have hnK := T.nK
    refine ⟨_, (pss_cons (ps_if (pt_cmpR op_gt (pe_callB c_len (by rfl) T.b_len PySem.boot_len (pa_cons (pv 1) pa_nil)) (C8.pe_gc (v := .int 40) (by rfl) T.g_MOST) (nomark _)) (pss_one ps_never) pss_nil)
      (pss_one (ps_fld (pv 0) (pe_callTy c_listOf (by rfl) T.b_list (by decide +kernel) (pa_cons (pv 1) pa_nil)) rfl))), ?_⟩
    walk_at "go"
    try rw [List.length_map]
    refine brF (by omega) ?_
    walk_at "go"
    refine r_listOf hS fun l nl => ?_
    walk_at "go"
    have npl : p ≠ l := ne_of_none hp nl
    refine ⟨p, C, dx, [], rfl, up_get npl hp, T.cl, T.nK, (by show 0 < 1000; decide), ?_⟩
    exact q l _ nl (But.of (same_new nl _)).up upd_same (up_get npl.symm upd_same)
/-- Row(..) of a readable list of numbers -/
theorem mk_row {K : PySem.W.Frag} {C a : Addr} {ns : List Int} {H : Hp} {N : Addr → Hp → Prop} {E : XK} (hS : SqL K H a (ns.map V.int)) (hl : ns.length ≤ 40)
    (q : ∀ (x l d : Addr) (H' : Hp), Same H H' → H x = none → H l = none → x ≠ l → H' x = some (.ins C d (rowF l)) → H' l = some (.lst (ns.map V.int)) → N x H') :
    ∀ x dx, H x = none → H dx = none → dx ≠ x → sp_Row___init__ K C (.ref x :: ([.ref a] ++ [])) (upd (upd H dx (.own x)) x (.ins C dx [])) (fun v H2 => v = .non ∧ N x H2) E := by
  intro x dx nx ndx nex
  have s0 : Same H (upd (upd H dx (.own x)) x (.ins C dx [])) := fun b o e => by
    rw [upd_ne (ne_of_none e nx), upd_ne (ne_of_none e ndx)]
    exact e
  refine ⟨x, dx, a, ns, rfl, upd_same, s0.seq hS, hl, fun l H' nl b hx hL => ⟨rfl, ?_⟩⟩
  exact q x l dx H' (same_made nx ndx b) nx (s0.free nl) (ne_of_none upd_same nl) hx hL
theorem sc_Row_ask : FnScope ["self", "place", "many"] ["self", "place", "many"] (defScope s_Row_ask) := ⟨rfl, rfl, rfl, by decide +kernel, rfl, by decide +kernel, by decide +kernel⟩
def sp_Row_ask (_ : PySem.W.Frag) (_ : Addr) : Sp := fun vs H Q _ => ∃ (x : V) (i m : Int), vs = [x, .int i, .int m] ∧ 0 ≤ i ∧ i < m ∧ Q .non H
theorem ok_Row_ask {f : Addr} {fd : FuncData} (F : Fun K "ask" "Row.ask" s_Row_ask f fd) (T : Txt K mg C)  : FnOk P w K mg base CX0 1 f fd ["self", "place", "many"] (sp_Row_ask K C) := by
  refine F.ok sc_Row_ask (fun vs H Q E h => ?_) (fun cdv A outer s H vs Q E hr h => ?_)
  · obtain ⟨x, i, m, rfl, h0, h1, q⟩ := h
    rfl
  · obtain ⟨x, i, m, rfl, h0, h1, q⟩ := h
    have hcl := T.cl
    have hnK := T.nK
    refine ⟨_, (pss_one (ps_if (pt_not (pt_chain op_le op_lt pe_int (pv 1) (pv 2))) (pss_one ps_never) pss_nil)), ?_⟩
    walk_at "go"
    refine brT (by omega) ?_
    walk_at "go"
    rw [decide_eq_true h1]
    refine iteF ?_
    walk_at "go"
    exact q
theorem sc_Row_ask_stretch : FnScope ["self", "first", "behind"] ["self", "first", "behind"] (defScope s_Row_ask_stretch) := ⟨rfl, rfl, rfl, by decide +kernel, rfl, by decide +kernel, by decide +kernel⟩
def sp_Row_ask_stretch (_ : PySem.W.Frag) (C : Addr) : Sp := fun vs H Q _ => ∃ (p dx l : Addr) (ns : List Int) (i j : Int), vs = [.ref p, .int i, .int j] ∧ H p = some (.ins C dx (rowF l)) ∧ H l = some (.lst (ns.map V.int)) ∧ 0 ≤ i ∧ i < j ∧ j ≤ (ns.length : Int) ∧ Q .non H
theorem ok_Row_ask_stretch {f : Addr} {fd : FuncData} (F : Fun K "ask_stretch" "Row.ask_stretch" s_Row_ask_stretch f fd) (T : Txt K mg C)  : FnOk P w K mg base CX0 1 f fd ["self", "first", "behind"] (sp_Row_ask_stretch K C) := by
  refine F.ok sc_Row_ask_stretch (fun vs H Q E h => ?_) (fun cdv A outer s H vs Q E hr h => ?_)
  · obtain ⟨p, dx, l, ns, i, j, rfl, hp, hL, h0, h1, h2, q⟩ := h
    rfl
  · obtain ⟨p, dx, l, ns, i, j, rfl, hp, hL, h0, h1, h2, q⟩ := h
    have hcl := T.cl
    have hnK := T.nK
    refine ⟨_, (pss_one (ps_if (pt_not (pt_chain3 op_le op_lt op_le pe_int (pv 1) (pv 2) (pe_callB c_len (by rfl) T.b_len PySem.boot_len (pa_cons (pe_fld (pv 0) rfl) pa_nil)))) (pss_one ps_never) pss_nil)), ?_⟩
    walk_at "go"
    refine brT (by omega) ?_
    walk_at "go"
    refine brT (by omega) ?_
    walk_at "go"
    rw [decide_eq_true h2]
    refine iteF ?_
    walk_at "go"
    exact q
theorem sc_Row_numbers : FnScope ["self"] ["self"] (defScope s_Row_numbers) := ⟨rfl, rfl, rfl, by decide +kernel, rfl, by decide +kernel, by decide +kernel⟩
def sp_Row_numbers (_ : PySem.W.Frag) (C : Addr) : Sp := fun vs H Q _ => ∃ (p dx l : Addr) (ns : List Int), vs = [.ref p] ∧ H p = some (.ins C dx (rowF l)) ∧ H l = some (.lst (ns.map V.int)) ∧
  ∀ (a : Addr), H a = none → Q (.ref a) (upd H a (.lst (ns.map V.int)))
theorem ok_Row_numbers {f : Addr} {fd : FuncData} (F : Fun K "numbers" "Row.numbers" s_Row_numbers f fd) (T : Txt K mg C)  : FnOk P w K mg base CX0 1 f fd ["self"] (sp_Row_numbers K C) := by
  refine F.ok sc_Row_numbers (fun vs H Q E h => ?_) (fun cdv A outer s H vs Q E hr h => ?_)
  · obtain ⟨p, dx, l, ns, rfl, hp, hL, q⟩ := h
    rfl
  · obtain ⟨p, dx, l, ns, rfl, hp, hL, q⟩ := h
    have hcl := T.cl
    have hnK := T.nK
    refine ⟨_, (pss_one (ps_ret (pe_callTy c_listOf (by rfl) T.b_list (by decide +kernel) (pa_cons (pe_fld (pv 0) rfl) pa_nil)))), ?_⟩
    walk_at "go"
    refine r_listOf (VT.SqL.lst hL) fun a na => ?_
    exact q a na
theorem sc_Row_set_at : FnScope ["self", "place", "number"] ["self", "place", "number"] (defScope s_Row_set_at) := ⟨rfl, rfl, rfl, by decide +kernel, rfl, by decide +kernel, by decide +kernel⟩
def sp_Row_set_at (_ : PySem.W.Frag) (C : Addr) : Sp := fun vs H Q _ => ∃ (p dx l : Addr) (ns : List Int) (i z : Int), vs = [.ref p, .int i, .int z] ∧ H p = some (.ins C dx (rowF l)) ∧ H l = some (.lst (ns.map V.int)) ∧ 0 ≤ i ∧ i < (ns.length : Int) ∧
  Q .non (upd H l (.lst ((ns.set i.toNat z).map V.int)))
theorem ok_Row_set_at {f : Addr} {fd : FuncData} (F : Fun K "set_at" "Row.set_at" s_Row_set_at f fd) (T : Txt K mg C) (c_Row_ask : C8.Met P w K mg base 1 C "ask" (sp_Row_ask K C) []) : FnOk P w K mg base CX0 2 f fd ["self", "place", "number"] (sp_Row_set_at K C) := by
  refine F.ok sc_Row_set_at (fun vs H Q E h => ?_) (fun cdv A outer s H vs Q E hr h => ?_)
  · obtain ⟨p, dx, l, ns, i, z, rfl, hp, hL, h0, h1, q⟩ := h
    rfl
  · obtain ⟨p, dx, l, ns, i, z, rfl, hp, hL, h0, h1, q⟩ := h
    have hcl := T.cl
    have hnK := T.nK
    refine ⟨_, (pss_cons (ps_expr (C8.pe_mt c_Row_ask hr (by decide) (pv 0) (pa_cons (pv 1) (pa_cons (pe_callB c_len (by rfl) T.b_len PySem.boot_len (pa_cons (pe_fld (pv 0) rfl) pa_nil)) pa_nil))))
      (pss_one (ps_asg (pv 2) (pg_sub (pe_fld (pv 0) rfl) (pv 1) set_list)))), ?_⟩
    walk_at "go"
    refine ⟨_, _, _, rfl, h0, h1, ?_⟩
    walk_at "go"
    exact r_setL hL h0 h1 q
theorem sc_Row_take_out : FnScope ["self", "place"] ["self", "place"] (defScope s_Row_take_out) := ⟨rfl, rfl, rfl, by decide +kernel, rfl, by decide +kernel, by decide +kernel⟩
def sp_Row_take_out (_ : PySem.W.Frag) (C : Addr) : Sp := fun vs H Q _ => ∃ (p dx l : Addr) (ns : List Int) (i z : Int), vs = [.ref p, .int i] ∧ H p = some (.ins C dx (rowF l)) ∧ H l = some (.lst (ns.map V.int)) ∧ ns.length ≤ 100 ∧ 0 ≤ i ∧ ns[i.toNat]? = some z ∧
  Q (.int z) (upd H l (.lst ((ns.eraseIdx i.toNat).map V.int)))
theorem ok_Row_take_out {f : Addr} {fd : FuncData} (F : Fun K "take_out" "Row.take_out" s_Row_take_out f fd) (T : Txt K mg C) (c_Row_ask : C8.Met P w K mg base 1 C "ask" (sp_Row_ask K C) []) : FnOk P w K mg base CX0 2 f fd ["self", "place"] (sp_Row_take_out K C) := by
  refine F.ok sc_Row_take_out (fun vs H Q E h => ?_) (fun cdv A outer s H vs Q E hr h => ?_)
  · obtain ⟨p, dx, l, ns, i, z, rfl, hp, hL, h3, h0, h1, q⟩ := h
    rfl
  · obtain ⟨p, dx, l, ns, i, z, rfl, hp, hL, h3, h0, h1, q⟩ := h
    have hcl := T.cl
    have hnK := T.nK
    refine ⟨_, (pss_cons (ps_expr (C8.pe_mt c_Row_ask hr (by decide) (pv 0) (pa_cons (pv 1) (pa_cons (pe_callB c_len (by rfl) T.b_len PySem.boot_len (pa_cons (pe_fld (pv 0) rfl) pa_nil)) pa_nil))))
      (pss_one (ps_ret (pe_bm PySem.F.plainAttrs_list PySem.F.slot_list_pop PySem.F.type_list_pop mt_popAt (pe_fld (pv 0) rfl) (pa_cons (pv 1) pa_nil))))), ?_⟩
    have hi : i.toNat < ns.length := (List.getElem?_eq_some_iff.mp h1).1
    walk_at "go"
    refine ⟨_, _, _, rfl, h0, (by omega), ?_⟩
    walk_at "go"
    refine r_popAt hL h0 (by omega) h1 ?_
    exact q
theorem sc_Row_put_in : FnScope ["self", "place", "number"] ["self", "place", "number"] (defScope s_Row_put_in) := ⟨rfl, rfl, rfl, by decide +kernel, rfl, by decide +kernel, by decide +kernel⟩
def sp_Row_put_in (_ : PySem.W.Frag) (C : Addr) : Sp := fun vs H Q _ => ∃ (p dx l : Addr) (ns : List Int) (i z : Int), vs = [.ref p, .int i, .int z] ∧ H p = some (.ins C dx (rowF l)) ∧ H l = some (.lst (ns.map V.int)) ∧ ns.length < 40 ∧ 0 ≤ i ∧ i ≤ (ns.length : Int) ∧
  Q .non (upd H l (.lst ((ns.take i.toNat ++ [z] ++ ns.drop i.toNat).map V.int)))
theorem ok_Row_put_in {f : Addr} {fd : FuncData} (F : Fun K "put_in" "Row.put_in" s_Row_put_in f fd) (T : Txt K mg C) (c_Row_ask : C8.Met P w K mg base 1 C "ask" (sp_Row_ask K C) []) : FnOk P w K mg base CX0 2 f fd ["self", "place", "number"] (sp_Row_put_in K C) := by
  refine F.ok sc_Row_put_in (fun vs H Q E h => ?_) (fun cdv A outer s H vs Q E hr h => ?_)
  · obtain ⟨p, dx, l, ns, i, z, rfl, hp, hL, h2, h0, h1, q⟩ := h
    rfl
  · obtain ⟨p, dx, l, ns, i, z, rfl, hp, hL, h2, h0, h1, q⟩ := h
    have hcl := T.cl
    have hnK := T.nK
    refine ⟨_, (pss_cons (ps_if (pt_cmpR op_eq (pe_callB c_len (by rfl) T.b_len PySem.boot_len (pa_cons (pe_fld (pv 0) rfl) pa_nil)) (C8.pe_gc (v := .int 40) (by rfl) T.g_MOST) (nomark _)) (pss_one ps_never) pss_nil)
      (pss_cons (ps_expr (C8.pe_mt c_Row_ask hr (by decide) (pv 0) (pa_cons (pv 1) (pa_cons (pe_op op_add (pe_callB c_len (by rfl) T.b_len PySem.boot_len (pa_cons (pe_fld (pv 0) rfl) pa_nil)) pe_int) pa_nil))))
      (pss_one (ps_expr (pe_bm PySem.F.plainAttrs_list PySem.F.slot_list_insert PySem.F.type_list_insert m_insert (pe_fld (pv 0) rfl) (pa_cons (pv 1) (pa_cons (pv 2) pa_nil))))))), ?_⟩
    walk_at "go"
    try rw [List.length_map]
    refine brF (by omega) ?_
    walk_at "go"
    refine ⟨_, _, _, rfl, h0, (by omega), ?_⟩
    walk_at "go"
    refine r_ins hL (by rw [List.length_map]; omega) h0 (by omega) ?_
    rw [← List.map_take, ← List.map_drop, snoc_int, ← List.map_append]
    exact q
/-- a number added to all of a stretch, the first k of it done -/
def addTo (ns : List Int) (i k : Nat) (z : Int) : List Int := match k with
  | 0 => ns
  | k + 1 => (addTo ns i k z).set (i + k) ((addTo ns i k z).getD (i + k) 0 + z)
theorem addTo_len (ns : List Int) (i k : Nat) (z : Int) : (addTo ns i k z).length = ns.length := by
  induction k with
  | zero => rfl
  | succ k ih =>
    show (List.set _ _ _).length = _
    rw [List.length_set, ih]
theorem getD_at {ns : List Int} {k : Nat} (h : k < ns.length) : ns[k]? = some (ns.getD k 0) := by
  rw [List.getD_eq_getElem?_getD, List.getElem?_eq_getElem h]
  rfl
theorem sc_Row_add_to : FnScope ["self", "first", "behind", "number", "place"] ["self", "first", "behind", "number"] (defScope s_Row_add_to) := ⟨rfl, rfl, rfl, by decide +kernel, rfl, by decide +kernel, by decide +kernel⟩
def sp_Row_add_to (_ : PySem.W.Frag) (C : Addr) : Sp := fun vs H Q _ => ∃ (p dx l : Addr) (ns : List Int) (i j z : Int), vs = [.ref p, .int i, .int j, .int z] ∧ H p = some (.ins C dx (rowF l)) ∧ H l = some (.lst (ns.map V.int)) ∧ ns.length ≤ 100 ∧ p ≠ l ∧ 0 ≤ i ∧ i < j ∧ j ≤ (ns.length : Int) ∧
  ∀ H', But l H H' → H' l = some (.lst ((addTo ns i.toNat (j - i).toNat z).map V.int)) → Q .non H'
theorem ok_Row_add_to {f : Addr} {fd : FuncData} (F : Fun K "add_to" "Row.add_to" s_Row_add_to f fd) (T : Txt K mg C) (c_Row_ask_stretch : C8.Met P w K mg base 1 C "ask_stretch" (sp_Row_ask_stretch K C) []) : FnOk P w K mg base CX0 2 f fd ["self", "first", "behind", "number"] (sp_Row_add_to K C) := by
  refine F.ok sc_Row_add_to (fun vs H Q E h => ?_) (fun cdv A outer s H vs Q E hr h => ?_)
  · obtain ⟨p, dx, l, ns, i, j, z, rfl, hp, hL, h3, npl, h0, h1, h2, q⟩ := h
    rfl
  · obtain ⟨p, dx, l, ns, i, j, z, rfl, hp, hL, h3, npl, h0, h1, h2, q⟩ := h
    have hcl := T.cl
    have hnK := T.nK
    refine ⟨_, (pss_cons (ps_expr (C8.pe_mt c_Row_ask_stretch hr (by decide) (pv 0) (pa_cons (pv 1) (pa_cons (pv 2) pa_nil))))
      (pss_one (ps_for PassesOwn.never rfl (pi_range2 (by rfl) T.b_range (pa_cons (pv 1) (pa_cons (pv 2) pa_nil))) (pg_name (i := 4) sc_Row_add_to.nd rfl (by first | exact Or.inl rfl | exact Or.inr rfl)) (pss_one (ps_asg (pe_op op_add (pe_ix ix_list (pe_fld (pv 0) rfl) (pv 4) (fun _ _ => rfl)) (pv 3)) (pg_sub (pe_fld (pv 0) rfl) (pv 4) set_list)))))), ?_⟩
    walk_at "go"
    refine ⟨p, dx, l, ns, i, j, rfl, hp, hL, h0, h1, h2, ?_⟩
    walk_at "go"
    refine r_loopR (fun k σ H' => ∃ v, σ = [some (.ref p), some (.int i), some (.int j), some (.int z), v] ∧ But l H H' ∧ H' l = some (.lst ((addTo ns i.toNat k z).map V.int))) ?_ ?_ ?_
    · exact ⟨_, rfl, But.of (Same.refl _), hL⟩
    · rintro k σ H' hk ⟨v, rfl, b1, hL'⟩
      have hp' : H' p = some (.ins C dx (rowF l)) := b1 _ _ hp npl
      have hlen := addTo_len ns i.toNat k z
      have ek : (i + (k : Int)).toNat = i.toNat + k := by omega
      have hx : ((addTo ns i.toNat k z).map V.int)[(i + (k : Int)).toNat]? = some (.int ((addTo ns i.toNat k z).getD (i.toNat + k) 0)) := by
        rw [List.getElem?_map, ek, getD_at (by omega)] <;> rfl
      walk_at "go"
      refine r_ixL (VT.SqL.lst hL') (r_at (by omega) hx) ?_
      walk_at "go"
      refine r_setL hL' (by omega) (by omega) ?_
      refine ⟨_, rfl, b1.up, ?_⟩
      rw [upd_same, ek] <;> rfl
    · rintro σ H' ⟨v, rfl, b1, hL'⟩
      exact q H' b1 hL'
theorem sc_over : FnScope ["numbers", "first", "behind", "top", "found", "head"] ["numbers", "first", "behind", "top", "found"] (defScope s_over) := ⟨rfl, rfl, rfl, by decide +kernel, rfl, by decide +kernel, by decide +kernel⟩
def sp_over (K : PySem.W.Frag) (_ : Addr) (n : Nat) : Sp := fun vs H Q _ => ∃ (a f : Addr) (ns : List Int) (i j : Nat) (top : Option Nat) (xs : List V) (t : BT), vs = [.ref a, .int i, .int j, oV top, .ref f] ∧ SqL K H a (ns.map V.int) ∧ H f = some (.lst xs) ∧ a ≠ f ∧ xs.length = ns.length ∧ ns.length ≤ 63 ∧ j ≤ ns.length ∧ IsCart ns i j t ∧ j - i < n ∧
  ∀ H', But f H H' → H' f = some (.lst (splice xs i (t.codeV i top))) → Q .non H'
theorem ok_over {f : Addr} {fd : FuncData} {n : Nat} (F : Fun K "over" "over" s_over f fd) (T : Txt K mg C) (c_over : C8.Cal P w K mg base (0 + n) "over" (sp_over K C n) []) : FnOk P w K mg base CX0 (0 + n + 1) f fd ["numbers", "first", "behind", "top", "found"] (sp_over K C (n + 1)) := by
  refine F.ok sc_over (fun vs H Q E h => ?_) (fun cdv A outer s H vs Q E hr h => ?_)
  · obtain ⟨a, f, ns, i, j, top, xs, t, rfl, hS, hF, naf, hxl, hn, hj, hC, hlt, q⟩ := h
    rfl
  · obtain ⟨a, f, ns, i, j, top, xs, t, rfl, hS, hF, naf, hxl, hn, hj, hC, hlt, q⟩ := h
    have hcl := T.cl
    have hnK := T.nK
    refine ⟨_, (pss_one (ps_if (pt_cmpR op_lt (pv 1) (pv 2) (nomark _)) (pss_cons (ps_set (i := 5) sc_over.nd rfl (by first | exact Or.inl rfl | exact Or.inr rfl) (pe_bm PySem.F.plainAttrs_list PySem.F.slot_list_index PySem.F.type_list_index mt_index3 (pv 0) (pa_cons (pe_callB (cr_min rfl) (by rfl) T.b_min (by decide +kernel) (pa_cons (pe_slice sl_list (pv 0) (po_some (pv 1)) (po_some (pv 2))) pa_nil)) (pa_cons (pv 1) pa_nil))))
      (pss_cons (ps_asg (pv 3) (pg_sub (pv 4) (pv 5) set_list))
      (pss_cons (ps_expr (C8.pe_c c_over hr (by omega) rfl (pa_cons (pv 0) (pa_cons (pv 1) (pa_cons (pv 5) (pa_cons (pv 5) (pa_cons (pv 4) pa_nil)))))))
      (pss_one (ps_expr (C8.pe_c c_over hr (by omega) rfl (pa_cons (pv 0) (pa_cons (pe_op op_add (pv 5) pe_int) (pa_cons (pv 2) (pa_cons (pv 5) (pa_cons (pv 4) pa_nil))))))))))) pss_nil)), ?_⟩
    have hsz := hC.size
    walk_at "go"
    refine brD (fun c => ?_) (fun c => ?_)
    · walk_at "go"
      refine r_slL hS fun s ns' => ?_
      rw [cut_midI (by omega) (by omega) (by omega) (by omega), show ((i : Nat) : Int).toNat = i by omega, show ((j : Nat) : Int).toNat = j by omega]
      have sA := same_new ns' (.lst (((ns.drop i).take (j - i)).map V.int))
      have hS1 := sA.seq hS
      have hF1 := sA _ _ hF
      have hX := @upd_same H s (.lst (((ns.drop i).take (j - i)).map V.int))
      generalize upd H s (.lst (((ns.drop i).take (j - i)).map V.int)) = H1 at sA hS1 hF1 hX
      walk_at "go"
      refine r_min (VT.SqL.lst hX) (by rw [List.length_take, List.length_drop]; omega) fun m hm hle => ?_
      obtain ⟨h, hL, hno⟩ := least_of_min hm hle
      walk_at "go"
      have h1 := hL.lo
      have h2 := hL.hi
      refine r_index3 hS1 (by omega) (by omega) hL.val (fun l l1 l2 => hno l (by omega) l2) ?_
      walk_at "go"
      refine r_setV hF1 (by omega) (by omega) ?_
      rw [show ((h : Nat) : Int).toNat = h by omega]
      cases hC with
      | nil => omega
      | @node _ _ h' m' l r hm' hl hr =>
        obtain ⟨_, e⟩ := hm'.uniq hL
        subst e
        have hls := hl.size
        have hrs := hr.size
        have b1 : But f H (upd H1 f (.lst (xs.set h' (oV top)))) := (But.of sA).up
        have hS2 := b1.seq naf hS
        have hF2 := @upd_same H1 f (.lst (xs.set h' (oV top)))
        generalize upd H1 f (.lst (xs.set h' (oV top))) = H2 at b1 hS2 hF2
        walk_at "go"
        refine ⟨a, f, ns, i, h', some h', _, l, rfl, hS2, hF2, naf, by rw [List.length_set]; exact hxl, hn, by omega, hl, by omega, fun H3 b3 hF3 => ?_⟩
        walk_at "go"
        have b13 := b1.trans b3
        refine ⟨a, f, ns, h' + 1, j, some h', _, r, rfl, b13.seq naf hS, hF3, naf, by rw [splice_len (by rw [List.length_set, BT.codeV_len]; omega), List.length_set]; exact hxl, hn, hj, hr, by omega, fun H4 b4 hF4 => ?_⟩
        refine q H4 (b13.trans b4) ?_
        have e := splice_tree (xs := xs) (f := i) (l := l) (r := r) (top := top) (by show i + (l.size + 1 + r.size) ≤ _; omega)
        rw [hls] at e
        rw [hF4, e]
    · walk_at "go"
      cases hC with
      | nil =>
        refine q H (But.of (Same.refl _)) ?_
        show H f = some (.lst (splice xs i []))
        rw [splice_nil]
        exact hF
      | node hm' hl hr =>
        have h1 := hm'.lo
        have h2 := hm'.hi
        omega
theorem no_over {K : PySem.W.Frag} {C : Addr} : ∀ vs H Q E, ¬ sp_over K C 0 vs H Q E := by
  rintro vs H Q E ⟨a, f, ns, i, j, top, xs, t, rfl, hS, hF, naf, hxl, hn, hj, hC, hlt, q⟩
  omega
theorem sc_tree_over : FnScope ["numbers", "found"] ["numbers"] (defScope s_tree_over) := ⟨rfl, rfl, rfl, by decide +kernel, rfl, by decide +kernel, by decide +kernel⟩
def sp_tree_over (K : PySem.W.Frag) (_ : Addr) : Sp := fun vs H Q _ => ∃ (a : Addr) (ns : List Int) (t : BT), vs = [.ref a] ∧ H a = some (.lst (ns.map V.int)) ∧ ns.length ≤ 40 ∧ IsCart ns 0 ns.length t ∧
  ∀ (x : Addr) (H' : Hp), H x = none → Same H H' → H' x = some (.lst (t.codeV 0 none)) → Q (.ref x) H'
theorem ok_tree_over {f : Addr} {fd : FuncData} (F : Fun K "tree_over" "tree_over" s_tree_over f fd) (T : Txt K mg C) (c_over : C8.Cal P w K mg base 42 "over" (sp_over K C 42) []) : FnOk P w K mg base CX0 43 f fd ["numbers"] (sp_tree_over K C) := by
  refine F.ok sc_tree_over (fun vs H Q E h => ?_) (fun cdv A outer s H vs Q E hr h => ?_)
  · obtain ⟨a, ns, t, rfl, hS, hn, hC, q⟩ := h
    rfl
  · obtain ⟨a, ns, t, rfl, hS, hn, hC, q⟩ := h
    have hcl := T.cl
    have hnK := T.nK
    refine ⟨_, (pss_cons (ps_set (i := 1) sc_tree_over.nd rfl (by first | exact Or.inl rfl | exact Or.inr rfl) (pe_op op_rep (pe_lst (pa_cons pe_non pa_nil)) (pe_callB c_len (by rfl) T.b_len PySem.boot_len (pa_cons (pv 0) pa_nil))))
      (pss_cons (ps_expr (C8.pe_c c_over hr (by decide) rfl (pa_cons (pv 0) (pa_cons pe_int (pa_cons (pe_callB c_len (by rfl) T.b_len PySem.boot_len (pa_cons (pv 0) pa_nil)) (pa_cons pe_non (pa_cons (pv 1) pa_nil)))))))
      (pss_one (ps_ret (pv 1))))), ?_⟩
    walk_at "go"
    intro e ne
    have sB := same_new ne (.lst [V.non])
    have hE := @upd_same H e (.lst [V.non])
    have hS1 := sB _ _ hS
    generalize upd H e (.lst [V.non]) = H1 at sB hE hS1
    walk_at "go"
    refine r_rep hE (by omega) (by omega) fun f nf => ?_
    have sC := same_new nf (.lst (List.replicate (ns.length : Int).toNat V.non))
    have naf : a ≠ f := ne_of_none hS1 nf
    have fr := sB.free nf
    have hF := @upd_same H1 f (.lst (List.replicate (ns.length : Int).toNat V.non))
    have hS2 := sC _ _ hS1
    have s2 := sB.trans sC
    generalize upd H1 f (.lst (List.replicate (ns.length : Int).toNat V.non)) = H2 at sC hF hS2 s2
    walk_at "go"
    refine ⟨a, f, ns, 0, ns.length, none, _, t, rfl, VT.SqL.lst hS2, hF, naf, by rw [List.length_replicate]; omega, by omega, Nat.le_refl _, hC, by omega, fun H3 b3 hF3 => ?_⟩
    walk_at "go"
    refine q f H3 fr (same_but s2 b3 fr) ?_
    have hs := hC.size
    rw [hF3, splice_all (by rw [BT.codeV_len, List.length_replicate]; omega)]
theorem sc_tree_of : FnScope ["row"] ["row"] (defScope s_tree_of) := ⟨rfl, rfl, rfl, by decide +kernel, rfl, by decide +kernel, by decide +kernel⟩
def sp_tree_of (_ : PySem.W.Frag) (C : Addr) : Sp := fun vs H Q _ => ∃ (p dx l : Addr) (ns : List Int) (t : BT), vs = [.ref p] ∧ H p = some (.ins C dx (rowF l)) ∧ H l = some (.lst (ns.map V.int)) ∧ ns.length ≤ 40 ∧ IsCart ns 0 ns.length t ∧
  ∀ (x : Addr) (H' : Hp), H x = none → Same H H' → H' x = some (.lst (t.codeV 0 none)) → Q (.ref x) H'
theorem ok_tree_of {f : Addr} {fd : FuncData} (F : Fun K "tree_of" "tree_of" s_tree_of f fd) (T : Txt K mg C) (c_tree_over : C8.Cal P w K mg base 43 "tree_over" (sp_tree_over K C) []) (c_Row_numbers : C8.Met P w K mg base 1 C "numbers" (sp_Row_numbers K C) []) : FnOk P w K mg base CX0 44 f fd ["row"] (sp_tree_of K C) := by
  refine F.ok sc_tree_of (fun vs H Q E h => ?_) (fun cdv A outer s H vs Q E hr h => ?_)
  · obtain ⟨p, dx, l, ns, t, rfl, hp, hL, hn, hC, q⟩ := h
    rfl
  · obtain ⟨p, dx, l, ns, t, rfl, hp, hL, hn, hC, q⟩ := h
    have hcl := T.cl
    have hnK := T.nK
    refine ⟨_, (pss_one (ps_ret (C8.pe_c c_tree_over hr (by decide) rfl (pa_cons (C8.pe_mt0 c_Row_numbers hr (by decide) (pv 0)) pa_nil)))), ?_⟩
    walk_at "go"
    refine ⟨p, dx, l, ns, rfl, hp, hL, fun n nn => ?_⟩
    have sA := same_new nn (.lst (ns.map V.int))
    walk_at "go"
    refine ⟨n, ns, t, rfl, upd_same, hn, hC, fun x H' nx s hx => ?_⟩
    exact q x H' (sA.free nx) (sA.trans s) hx
theorem sc_least : FnScope ["row", "first", "behind", "numbers", "low"] ["row", "first", "behind"] (defScope s_least) := ⟨rfl, rfl, rfl, by decide +kernel, rfl, by decide +kernel, by decide +kernel⟩
def sp_least (_ : PySem.W.Frag) (C : Addr) : Sp := fun vs H Q _ => ∃ (p dx l : Addr) (ns : List Int) (i j : Int), vs = [.ref p, .int i, .int j] ∧ H p = some (.ins C dx (rowF l)) ∧ H l = some (.lst (ns.map V.int)) ∧ ns.length ≤ 40 ∧ 0 ≤ i ∧ i < j ∧ j ≤ (ns.length : Int) ∧
  ∀ (t : Addr) (H' : Hp) (m : Int) (a : Nat), Same H H' → H t = none → H' t = some (.tup [.int m, .int (a : Int)]) → IsLeast ns i.toNat j.toNat m a → Q (.ref t) H'
theorem ok_least {f : Addr} {fd : FuncData} (F : Fun K "least" "least" s_least f fd) (T : Txt K mg C) (c_Row_numbers : C8.Met P w K mg base 1 C "numbers" (sp_Row_numbers K C) []) (c_Row_ask_stretch : C8.Met P w K mg base 1 C "ask_stretch" (sp_Row_ask_stretch K C) []) : FnOk P w K mg base CX0 2 f fd ["row", "first", "behind"] (sp_least K C) := by
  refine F.ok sc_least (fun vs H Q E h => ?_) (fun cdv A outer s H vs Q E hr h => ?_)
  · obtain ⟨p, dx, l, ns, i, j, rfl, hp, hL, hn, h0, h1, h2, q⟩ := h
    rfl
  · obtain ⟨p, dx, l, ns, i, j, rfl, hp, hL, hn, h0, h1, h2, q⟩ := h
    have hcl := T.cl
    have hnK := T.nK
    refine ⟨_, (pss_cons (ps_expr (C8.pe_mt c_Row_ask_stretch hr (by decide) (pv 0) (pa_cons (pv 1) (pa_cons (pv 2) pa_nil))))
      (pss_cons (ps_set (i := 3) sc_least.nd rfl (by first | exact Or.inl rfl | exact Or.inr rfl) (C8.pe_mt0 c_Row_numbers hr (by decide) (pv 0)))
      (pss_cons (ps_set (i := 4) sc_least.nd rfl (by first | exact Or.inl rfl | exact Or.inr rfl) (pe_callB (cr_min rfl) (by rfl) T.b_min (by decide +kernel) (pa_cons (pe_slice sl_list (pv 3) (po_some (pv 1)) (po_some (pv 2))) pa_nil)))
      (pss_one (ps_ret (pe_tup (pa_cons (pv 4) (pa_cons (pe_bm PySem.F.plainAttrs_list PySem.F.slot_list_index PySem.F.type_list_index mt_index3 (pv 3) (pa_cons (pv 4) (pa_cons (pv 1) pa_nil))) pa_nil)))))))), ?_⟩
    walk_at "go"
    refine ⟨p, dx, l, ns, i, j, rfl, hp, hL, h0, h1, h2, ?_⟩
    walk_at "go"
    refine ⟨p, dx, l, ns, rfl, hp, hL, fun x nx => ?_⟩
    have sA := same_new nx (.lst (ns.map V.int))
    walk_at "go"
    refine r_slL (VT.SqL.lst upd_same) fun y ny => ?_
    rw [cut_midI h0 (by omega) (by omega) h2]
    have sB := same_new ny (.lst (((ns.drop i.toNat).take (j.toNat - i.toNat)).map V.int))
    walk_at "go"
    refine r_min (VT.SqL.lst upd_same) (by rw [List.length_take, List.length_drop]; omega) fun m hm hle => ?_
    obtain ⟨a, ha, hf⟩ := least_of_min hm hle
    walk_at "go"
    refine r_index3 (VT.SqL.lst (sB _ _ upd_same)) h0 ha.lo ha.val hf ?_
    walk_at "go"
    intro t nt
    have sC := same_new nt (.tup [V.int m, V.int (a : Int)])
    exact q t _ m a ((sA.trans sB).trans sC) ((sA.trans sB).free nt) upd_same ha
theorem cell_at {ns : List Int} {k : Int} (h0 : 0 ≤ k) (h : k < (ns.length : Int)) : atI (ns.map V.int) k = some (.int (ns.getD k.toNat 0)) := by
  have hk : k.toNat < ns.length := by omega
  refine r_at (j := k.toNat) (by omega) ?_
  rw [List.getElem?_map, List.getD_eq_getElem?_getD, List.getElem?_eq_getElem hk]
  rfl
theorem cell_no {ns : List Int} {k : Int} (h : ¬ k < (ns.length : Int)) : ns.getD k.toNat 0 = 0 := by
  rw [List.getD_eq_getElem?_getD, List.getElem?_eq_none (by omega)]
  rfl
theorem sc__law_cell_at : FnScope ["script", "k"] ["script", "k"] (defScope s__law_cell_at) := ⟨rfl, rfl, rfl, by decide +kernel, rfl, by decide +kernel, by decide +kernel⟩
def sp__law_cell_at (K : PySem.W.Frag) (_ : Addr) : Sp := fun vs H Q _ => ∃ (a : Addr) (ns : List Int) (k : Int), vs = [.ref a, .int k] ∧ SqL K H a (ns.map V.int) ∧ 0 ≤ k ∧ Q (.int (ns.getD k.toNat 0)) H
theorem ok__law_cell_at {f : Addr} {fd : FuncData} (F : Fun K "_law_cell_at" "_law_cell_at" s__law_cell_at f fd) (T : Txt K mg C)  : FnOk P w K mg base CX0 1 f fd ["script", "k"] (sp__law_cell_at K C) := by
  refine F.ok sc__law_cell_at (fun vs H Q E h => ?_) (fun cdv A outer s H vs Q E hr h => ?_)
  · obtain ⟨a, ns, k, rfl, hS, h0, q⟩ := h
    rfl
  · obtain ⟨a, ns, k, rfl, hS, h0, q⟩ := h
    have hcl := T.cl
    have hnK := T.nK
    refine ⟨_, (pss_cons (ps_if (pt_cmpR op_lt (pv 1) (pe_callB c_len (by rfl) T.b_len PySem.boot_len (pa_cons (pv 0) pa_nil)) (nomark _)) (pss_one (ps_ret (pe_ix ix_list (pv 0) (pv 1) (fun _ _ => rfl)))) pss_nil)
      (pss_one (ps_ret pe_int))), ?_⟩
    walk_at "go"
    try rw [List.length_map]
    refine brD (fun c => ?_) (fun c => ?_)
    · have c2 := cell_at h0 c
      walk_at "go"
      exact q
    · rw [cell_no c] at q
      walk_at "go"
      exact q
theorem sc__law_whole : FnScope ["found"] ["found"] (defScope s__law_whole) := ⟨rfl, rfl, rfl, by decide +kernel, rfl, by decide +kernel, by decide +kernel⟩
def sp__law_whole (_ : PySem.W.Frag) (_ : Addr) : Sp := fun vs H Q _ => ∃ (i : Int), vs = [.int i] ∧ Q (.bl true) H
theorem ok__law_whole {f : Addr} {fd : FuncData} (F : Fun K "_law_whole" "_law_whole" s__law_whole f fd) (T : Txt K mg C)  : FnOk P w K mg base CX0 1 f fd ["found"] (sp__law_whole K C) := by
  refine F.ok sc__law_whole (fun vs H Q E h => ?_) (fun cdv A outer s H vs Q E hr h => ?_)
  · obtain ⟨i, rfl, q⟩ := h
    rfl
  · obtain ⟨i, rfl, q⟩ := h
    have hcl := T.cl
    have hnK := T.nK
    refine ⟨_, (pss_one (ps_ret (pe_and (pe_callB call_isi (by rfl) T.b_isinstance (by decide +kernel) (pa_cons (pv 0) (pa_cons (pe_bltn (v := .ty "int") (by rfl) T.b_int (by decide +kernel) rfl) pa_nil))) (pe_one (pe_not (pe_callB call_isi (by rfl) T.b_isinstance (by decide +kernel) (pa_cons (pv 0) (pa_cons (pe_bltn (v := .ty "bool") (by rfl) T.b_bool (by decide +kernel) rfl) pa_nil)))))))), ?_⟩
    walk_at "go"
    refine r_isiT (.base (.int i)) (by decide +kernel) ?_
    walk_at "go"
    refine iteT ?_
    walk_at "go"
    refine r_isiF (.base (.int i)) (by decide +kernel) ?_
    walk_at "go"
    exact q
theorem sc__law_draw : FnScope ["cell", "k", "bound", "one", "two"] ["cell", "k", "bound"] (defScope s__law_draw) := ⟨rfl, rfl, rfl, by decide +kernel, rfl, by decide +kernel, by decide +kernel⟩
def sp__law_draw (_ : PySem.W.Frag) (_ : Addr) : Sp := fun vs H Q _ => ∃ (c k b : Int), vs = [.int c, .int k, .int b] ∧ 0 ≤ k ∧ k ≤ 1000 ∧ 0 < b ∧ b ≤ 10000000 ∧ ∀ r : Int, 0 ≤ r → r < b → Q (.int r) H
theorem ok__law_draw {f : Addr} {fd : FuncData} (F : Fun K "_law_draw" "_law_draw" s__law_draw f fd) (T : Txt K mg C)  : FnOk P w K mg base CX0 1 f fd ["cell", "k", "bound"] (sp__law_draw K C) := by
  refine F.ok sc__law_draw (fun vs H Q E h => ?_) (fun cdv A outer s H vs Q E hr h => ?_)
  · obtain ⟨c, k, b, rfl, h0, h1, h2, h3, q⟩ := h
    rfl
  · obtain ⟨c, k, b, rfl, h0, h1, h2, h3, q⟩ := h
    have hcl := T.cl
    have hnK := T.nK
    refine ⟨_, (pss_cons (ps_set (i := 3) sc__law_draw.nd rfl (by first | exact Or.inl rfl | exact Or.inr rfl) (pe_op op_mod (pe_op op_add (pe_op op_add (pe_op op_mul (pe_op op_mod (pv 0) pe_int) pe_int) (pe_op op_mul (pv 1) pe_int)) pe_int) pe_int))
      (pss_cons (ps_set (i := 4) sc__law_draw.nd rfl (by first | exact Or.inl rfl | exact Or.inr rfl) (pe_op op_mod (pe_op op_mul (pe_op op_add (pe_op op_mod (pv 0) pe_int) pe_int) (pe_op op_add (pe_op op_add (pe_op op_mul (pv 1) (pv 1)) (pe_op op_mul pe_int (pv 1))) pe_int)) pe_int))
      (pss_one (ps_ret (pe_op op_mod (pe_op op_fdiv (pe_op op_mul (pv 3) (pe_op op_add (pv 4) pe_int)) pe_int) (pv 2)))))), ?_⟩
    have ek : (-1000 ≤ k * k ∧ k * k ≤ 1000000) := ⟨Int.le_trans (by decide) (Int.mul_nonneg h0 h0), Int.le_trans (Int.mul_le_mul h1 h1 h0 (by decide)) (by decide)⟩
    walk_at "go"
    have e1 := Int.emod_nonneg c (show (1000003 : Int) ≠ 0 by decide)
    have e2 := Int.emod_lt_of_pos c (show (0 : Int) < 1000003 by decide)
    walk_at "go"
    exact q _ (Int.emod_nonneg _ (by omega)) (Int.emod_lt_of_pos _ (by omega))
/-- numbers that a row of the law's may have -/
def Mid (ns : List Int) : Prop := ∀ x ∈ ns, x.natAbs < 2 ^ 200
theorem Mid.nil : Mid [] := fun _ h => by cases h
theorem Mid.snoc {ns : List Int} {x : Int} (h : Mid ns) (hx : x.natAbs < 2 ^ 200) : Mid (ns ++ [x]) := fun y hy => by
  rcases List.mem_append.mp hy with e | e
  · exact h y e
  · rw [List.mem_singleton.mp e]
    exact hx
theorem sc__law_row : FnScope ["script", "at", "most", "size", "kind", "found", "k", "cell"] ["script", "at", "most"] (defScope s__law_row) := ⟨rfl, rfl, rfl, by decide +kernel, rfl, by decide +kernel, by decide +kernel⟩
def sp__law_row (K : PySem.W.Frag) (_ : Addr) : Sp := fun vs H Q _ => ∃ (a : Addr) (ns : List Int) (at' m : Int), vs = [.ref a, .int at', .int m] ∧ SqL K H a (ns.map V.int) ∧ 0 ≤ at' ∧ at' ≤ 100 ∧ 0 ≤ m ∧ m ≤ 60 ∧
  ∀ (p : Addr) (ms : List Int) (H' : Hp), H p = none → Same H H' → H' p = some (.lst (ms.map V.int)) → (ms.length : Int) ≤ m → Mid ms → Q (.ref p) H'
theorem ok__law_row {f : Addr} {fd : FuncData} (F : Fun K "_law_row" "_law_row" s__law_row f fd) (T : Txt K mg C) (c__law_draw : C8.Cal P w K mg base 1 "_law_draw" (sp__law_draw K C) []) (c__law_cell_at : C8.Cal P w K mg base 1 "_law_cell_at" (sp__law_cell_at K C) []) : FnOk P w K mg base CX0 2 f fd ["script", "at", "most"] (sp__law_row K C) := by
  refine F.ok sc__law_row (fun vs H Q E h => ?_) (fun cdv A outer s H vs Q E hr h => ?_)
  · obtain ⟨a, ns, at', m, rfl, hS, h0, h1, h2, h3, q⟩ := h
    rfl
  · obtain ⟨a, ns, at', m, rfl, hS, h0, h1, h2, h3, q⟩ := h
    have hcl := T.cl
    have hnK := T.nK
    refine ⟨_, (pss_cons (ps_set (i := 3) sc__law_row.nd rfl (by first | exact Or.inl rfl | exact Or.inr rfl) (pe_op op_mod (C8.pe_c c__law_cell_at hr (by decide) rfl (pa_cons (pv 0) (pa_cons (pv 1) pa_nil))) (pe_op op_add (pv 2) pe_int)))
      (pss_cons (ps_set (i := 4) sc__law_row.nd rfl (by first | exact Or.inl rfl | exact Or.inr rfl) (pe_op op_mod (pe_op op_fdiv (C8.pe_c c__law_cell_at hr (by decide) rfl (pa_cons (pv 0) (pa_cons (pv 1) pa_nil))) (pe_op op_add (pv 2) pe_int)) pe_int))
      (pss_cons (ps_set (i := 5) sc__law_row.nd rfl (by first | exact Or.inl rfl | exact Or.inr rfl) (pe_lst pa_nil))
      (pss_cons (ps_for PassesOwn.never rfl (pi_range1 (by rfl) T.b_range (pa_cons (pv 3) pa_nil)) (pg_name (i := 6) sc__law_row.nd rfl (by first | exact Or.inl rfl | exact Or.inr rfl)) (pss_cons (ps_set (i := 7) sc__law_row.nd rfl (by first | exact Or.inl rfl | exact Or.inr rfl) (C8.pe_c c__law_cell_at hr (by decide) rfl (pa_cons (pv 0) (pa_cons (pe_op op_add (pe_op op_add (pv 1) pe_int) (pv 6)) pa_nil))))
      (C8.pss_cut (ps_if (pt_cmpR op_ge (pe_op op_add (pe_op op_add (pv 1) pe_int) (pv 6)) (pe_callB c_len (by rfl) T.b_len PySem.boot_len (pa_cons (pv 0) pa_nil)) (nomark _)) (pss_one (ps_set (i := 7) sc__law_row.nd rfl (by first | exact Or.inl rfl | exact Or.inr rfl) (C8.pe_c c__law_draw hr (by decide) rfl (pa_cons (C8.pe_c c__law_cell_at hr (by decide) rfl (pa_cons (pv 0) (pa_cons (pv 1) pa_nil))) (pa_cons (pv 6) (pa_cons pe_int pa_nil)))))) pss_nil)
      (pss_one (ps_expr (pe_bm PySem.F.plainAttrs_list PySem.F.slot_list_append PySem.F.type_list_append mt_append (pv 5) (pa_cons (pe_ix ix_list (pe_lst (pa_cons (pe_op op_mod (pv 7) pe_int) (pa_cons (pe_op op_sub (pe_op op_mod (pv 7) pe_int) pe_int) (pa_cons (pe_op op_sub (pe_op op_mod (pv 7) (pe_op op_pow pe_int pe_int)) (pe_op op_pow pe_int pe_int)) (pa_cons (pe_op op_add (pv 6) (pe_op op_mod (pv 7) pe_int)) pa_nil))))) (pv 4) (fun _ _ => rfl)) pa_nil)))))))
      (pss_one (ps_ret (pv 5))))))), ?_⟩
    walk_at "go"
    refine ⟨a, ns, at', rfl, hS, h0, ?_⟩
    generalize ns.getD at'.toNat 0 = c0
    walk_at "go"
    refine ⟨a, ns, at', rfl, hS, h0, ?_⟩
    generalize ns.getD at'.toNat 0 = c1
    walk_at "go"
    intro p np
    walk_at "go"
    have z0 := Int.emod_nonneg c0 (show m + 1 ≠ 0 by omega)
    have z1 := Int.emod_lt_of_pos c0 (show (0 : Int) < m + 1 by omega)
    generalize c0 % (m + 1) = size at z0 z1
    have k0 := Int.emod_nonneg (c1 / (m + 1)) (show (4 : Int) ≠ 0 by decide)
    have k1 := Int.emod_lt_of_pos (c1 / (m + 1)) (show (0 : Int) < 4 by decide)
    generalize c1 / (m + 1) % 4 = kind at k0 k1
    walk_at "go"
    refine r_loopR (fun i σ H' => ∃ ms : List Int, ∃ v w, σ = [some (.ref a), some (.int at'), some (.int m), some (.int size), some (.int kind), some (.ref p), v, w] ∧ Same H H' ∧ H' p = some (.lst (ms.map V.int)) ∧ ms.length = i ∧ Mid ms) ?_ ?_ ?_
    · exact ⟨[], _, _, rfl, same_new np _, upd_same, rfl, Mid.nil⟩
    · rintro i σ H' hi ⟨ms, v, w, rfl, s1, hp, hl, hm⟩
      have fin : ∀ (c k x : Int), 0 ≤ k → k ≤ 60 → (x = c % 4 ∨ x = c % 21 - 10 ∨ x = c % 10 ^ 50 - 10 ^ 49 ∨ x = k + c % 3) → x.natAbs < 2 ^ 200 := fun c k x k0 k1 hx => by
        have e1 := Int.emod_nonneg c (show (4 : Int) ≠ 0 by decide)
        have e2 := Int.emod_lt_of_pos c (show (0 : Int) < 4 by decide)
        have e3 := Int.emod_nonneg c (show (21 : Int) ≠ 0 by decide)
        have e4 := Int.emod_lt_of_pos c (show (0 : Int) < 21 by decide)
        have e5 := Int.emod_nonneg c (show (10 ^ 50 : Int) ≠ 0 by decide)
        have e6 := Int.emod_lt_of_pos c (show (0 : Int) < 10 ^ 50 by decide)
        have e7 := Int.emod_nonneg c (show (3 : Int) ≠ 0 by decide)
        have e8 := Int.emod_lt_of_pos c (show (0 : Int) < 3 by decide)
        omega
      walk_at "go"
      refine ⟨a, ns, _, rfl, s1.seq hS, by omega, ?_⟩
      generalize ns.getD (at' + 1 + (0 + (i : Int))).toNat 0 = c2
      walk_at "go"
      refine r_cut (fun σ' H4 => H4 = H' ∧ ∃ c : Int, σ' = [some (V.ref a), some (.int at'), some (.int m), some (.int size), some (.int kind), some (.ref p), some (.int (0 + (i : Int))), some (.int c)]) ?_ ?_
      · walk_at "go"
        try rw [List.length_map]
        refine brD (fun c => ?_) (fun c => ?_)
        · walk_at "go"
          refine ⟨a, ns, _, rfl, s1.seq hS, by omega, ?_⟩
          walk_at "go"
          refine ⟨_, _, _, rfl, by omega, by omega, by omega, by omega, fun r r0 r1 => ?_⟩
          walk_at "go"
          exact ⟨rfl, _, rfl⟩
        · walk_at "go"
          exact ⟨rfl, _, rfl⟩
      · rintro σ' H4 ⟨rfl, c, rfl⟩
        walk_at "go"
        intro t nt
        walk_at "go"
        have s2 : Same H4 (upd H4 t (.lst [V.int (c % 4), V.int (c % 21 - 10), V.int (c % 10 ^ 50 - 10 ^ 49), V.int (0 + (i : Int) + c % 3)])) := same_new nt _
        have kk : kind = ((0 : Nat) : Int) ∨ kind = ((1 : Nat) : Int) ∨ kind = ((2 : Nat) : Int) ∨ kind = ((3 : Nat) : Int) := by omega
        rcases kk with e | e | e | e
        · refine r_ixL (VT.SqL.lst upd_same) (r_at e rfl) ?_
          walk_at "go"
          exact ⟨ms ++ [_], _, _, rfl, same_mut (s1.trans s2) np, by rw [upd_same, snoc_int] <;> rfl, by rw [List.length_append, hl] <;> rfl, hm.snoc (fin c (0 + (i : Int)) _ (by omega) (by omega) (.inl rfl))⟩
        · refine r_ixL (VT.SqL.lst upd_same) (r_at e rfl) ?_
          walk_at "go"
          exact ⟨ms ++ [_], _, _, rfl, same_mut (s1.trans s2) np, by rw [upd_same, snoc_int] <;> rfl, by rw [List.length_append, hl] <;> rfl, hm.snoc (fin c (0 + (i : Int)) _ (by omega) (by omega) (.inr (.inl rfl)))⟩
        · refine r_ixL (VT.SqL.lst upd_same) (r_at e rfl) ?_
          walk_at "go"
          exact ⟨ms ++ [_], _, _, rfl, same_mut (s1.trans s2) np, by rw [upd_same, snoc_int] <;> rfl, by rw [List.length_append, hl] <;> rfl, hm.snoc (fin c (0 + (i : Int)) _ (by omega) (by omega) (.inr (.inr (.inl rfl))))⟩
        · refine r_ixL (VT.SqL.lst upd_same) (r_at e rfl) ?_
          walk_at "go"
          exact ⟨ms ++ [_], _, _, rfl, same_mut (s1.trans s2) np, by rw [upd_same, snoc_int] <;> rfl, by rw [List.length_append, hl] <;> rfl, hm.snoc (fin c (0 + (i : Int)) _ (by omega) (by omega) (.inr (.inr (.inr rfl))))⟩
    · rintro σ H' ⟨ms, v, w, rfl, s1, hp, hl, hm⟩
      walk_at "go"
      exact q p ms H' np s1 hp (by omega) hm
theorem sc__law_places : FnScope ["found", "due", "one"] ["found", "due"] (defScope s__law_places) := ⟨rfl, rfl, rfl, by decide +kernel, rfl, by decide +kernel, by decide +kernel⟩
def sp__law_places (K : PySem.W.Frag) (_ : Addr) : Sp := fun vs H Q _ => ∃ (a b : Addr) (xs ys : List V), vs = [.ref a, .ref b] ∧ SqL K H a xs ∧ SqL K H b ys ∧ xs.all okV = true ∧ ys.all okV = true ∧ Q (.bl (decide (xs = ys))) H
theorem ok__law_places {f : Addr} {fd : FuncData} (F : Fun K "_law_places" "_law_places" s__law_places f fd) (T : Txt K mg C) (c__law_whole : C8.Cal P w K mg base 1 "_law_whole" (sp__law_whole K C) []) : FnOk P w K mg base CX0 2 f fd ["found", "due"] (sp__law_places K C) := by
  refine F.ok sc__law_places (fun vs H Q E h => ?_) (fun cdv A outer s H vs Q E hr h => ?_)
  · obtain ⟨a, b, xs, ys, rfl, h1, h2, o1, o2, q⟩ := h
    rfl
  · obtain ⟨a, b, xs, ys, rfl, h1, h2, o1, o2, q⟩ := h
    have hcl := T.cl
    have hnK := T.nK
    refine ⟨_, (pss_cons (ps_if (PW.pt (pw_or (pt_not (pt_val (pe_callB call_isi (by rfl) T.b_isinstance (by decide +kernel) (pa_cons (pv 0) (pa_cons (pe_bltn (v := .ty "list") (by rfl) T.b_list (by decide +kernel) rfl) pa_nil))))) (pw_or1 (pt_cmpR op_ne (pe_callB c_len (by rfl) T.b_len PySem.boot_len (pa_cons (pv 0) pa_nil)) (pe_callB c_len (by rfl) T.b_len PySem.boot_len (pa_cons (pv 1) pa_nil)) (nomark _))))) (pss_one (ps_ret pe_bl)) pss_nil)
      (pss_cons (ps_for PassesOwn.never rfl (pi_list (pv 0)) (pg_name (i := 2) sc__law_places.nd rfl (by first | exact Or.inl rfl | exact Or.inr rfl)) (pss_one (ps_if (PW.pt (pw_and (pt_cmpR o_notN (pv 2) pe_non (nomark _)) (pw_and1 (pt_not (pt_val (C8.pe_c c__law_whole hr (by decide) rfl (pa_cons (pv 2) pa_nil))))))) (pss_one (ps_ret pe_bl)) pss_nil)))
      (pss_one (ps_ret (pe_cmpR (op_eqD hr.units) (pv 0) (pv 1) (nomark _)))))), ?_⟩
    walk_at "go"
    walk_at "andor"
    walk_at "go"
    refine r_isiT (tyX_sq h1) (by decide +kernel) ?_
    walk_at "go"
    refine iteF ?_
    walk_at "go"
    refine brN (fun c => ?_) (fun c => ?_)
    · walk_at "go"
      have e : xs ≠ ys := fun z => c (by rw [z])
      rw [decide_eq_false e] at q
      exact q
    · walk_at "go"
      refine r_loopL (xs := xs) (fun i σ H' => H' = H ∧ ∃ v, σ = [some (.ref a), some (.ref b), v]) ⟨rfl, _, rfl⟩ (fun i σ H' _ hp => hp.1 ▸ h1) ?_ ?_
      · rintro i z σ H' hz ⟨rfl, v, rfl⟩
        have hzo : okV z = true := List.all_eq_true.mp o1 z (List.mem_of_getElem? hz)
        walk_at "go"
        walk_at "andor"
        walk_at "go"
        cases z with
        | non =>
          refine brNF rfl ?_
          refine iteF ?_
          walk_at "go"
          exact ⟨rfl, _, rfl⟩
        | int i =>
          refine brNT (by intro h; cases h) ?_
          walk_at "go"
          refine ⟨i, rfl, ?_⟩
          walk_at "go"
          refine iteF ?_
          walk_at "go"
          exact ⟨rfl, _, rfl⟩
        | bl _ => cases hzo
        | str _ => cases hzo
        | byt _ => cases hzo
        | flt _ => cases hzo
        | ref _ => cases hzo
        | ty _ => cases hzo
      · rintro σ H' ⟨rfl, v, rfl⟩
        walk_at "go"
        exact r_eqL h1 h2 o1 o2 q
theorem sc__law_up : FnScope ["tree", "place", "found"] ["tree", "place"] (defScope s__law_up) := ⟨rfl, rfl, rfl, by decide +kernel, rfl, by decide +kernel, by decide +kernel⟩
def sp__law_up (_ : PySem.W.Frag) (_ : Addr) : Sp := fun vs H Q _ => ∃ (a : Addr) (t : BT) (p : Nat), vs = [.ref a, .int (p : Int)] ∧ H a = some (.lst (t.codeV 0 none)) ∧ p < t.size ∧ t.size ≤ 63 ∧
  ∀ (x : Addr) (H' : Hp), H x = none → Same H H' → H' x = some (.lst ((t.path 0 p).map fun (n : Nat) => V.int (n : Int))) → Q (.ref x) H'
theorem ok__law_up {f : Addr} {fd : FuncData} (F : Fun K "_law_up" "_law_up" s__law_up f fd) (T : Txt K mg C)  : FnOk P w K mg base CX0 1 f fd ["tree", "place"] (sp__law_up K C) := by
  refine F.ok sc__law_up (fun vs H Q E h => ?_) (fun cdv A outer s H vs Q E hr h => ?_)
  · obtain ⟨a, t, p, rfl, hA, hp, ht, q⟩ := h
    rfl
  · obtain ⟨a, t, p, rfl, hA, hp, ht, q⟩ := h
    have hcl := T.cl
    have hnK := T.nK
    refine ⟨_, (pss_cons (ps_set (i := 2) sc__law_up.nd rfl (by first | exact Or.inl rfl | exact Or.inr rfl) (pe_lst (pa_cons (pv 1) pa_nil)))
      (pss_cons (ps_while PassesOwn.never (PW.pt (pw_and (pt_cmpR o_notN (pe_ix ix_list (pv 0) (pe_ix ix_list (pv 2) (pe_un un_neg pe_int) (fun _ _ => rfl)) (fun _ _ => rfl)) pe_non (nomark _)) (pw_and1 (pt_cmpR op_le (pe_callB c_len (by rfl) T.b_len PySem.boot_len (pa_cons (pv 2) pa_nil)) (pe_callB c_len (by rfl) T.b_len PySem.boot_len (pa_cons (pv 0) pa_nil)) (nomark _))))) (pss_one (ps_expr (pe_bm PySem.F.plainAttrs_list PySem.F.slot_list_append PySem.F.type_list_append mt_append (pv 2) (pa_cons (pe_ix ix_list (pv 0) (pe_ix ix_list (pv 2) (pe_un un_neg pe_int) (fun _ _ => rfl)) (fun _ _ => rfl)) pa_nil)))))
      (pss_one (ps_ret (pv 2))))), ?_⟩
    walk_at "go"
    intro f nf
    have sA := same_new nf (.lst [V.int (p : Int)])
    have hF := @upd_same H f (.lst [V.int (p : Int)])
    generalize upd H f (.lst [V.int (p : Int)]) = H1 at sA hF
    have h0 := BT.path_start t 0 p (Nat.zero_le _) (by omega)
    have hpl := BT.path_len t 0 p
    walk_at "go"
    refine r_while (fun m σ H' => ∃ (k q : Nat), m = (t.path 0 p).length - k ∧ (t.path 0 p)[k]? = some q ∧ σ = [some (.ref a), some (.int (p : Int)), some (.ref f)] ∧ Same H H' ∧ H' f = some (.lst (((t.path 0 p).take k ++ [q]).map fun (n : Nat) => V.int (n : Int)))) (t.path 0 p).length ⟨0, p, rfl, h0, rfl, sA, hF⟩ ?_
    rintro m σ H2 ⟨k, q', rfl, hk, rfl, s2, hF2⟩
    have hkl : k < (t.path 0 p).length := (List.getElem?_eq_some_iff.mp hk).1
    have hA2 := s2 _ _ hA
    have hin := BT.path_in t 0 p q' (List.mem_of_getElem? hk)
    have hQ : (t.codeV 0 none)[q']? = some (oV (orTop none ((t.path 0 p)[k + 1]?))) := by
      unfold BT.codeV
      have := BT.path_link t 0 p k q' none hk
      rw [Nat.sub_zero] at this
      rw [List.getElem?_map, this] <;> rfl
    walk_at "andor"
    walk_at "go"
    refine pile_last hF2 ?_
    walk_at "go"
    cases hx : (t.path 0 p)[k + 1]? with
    | none =>
      refine iteF ?_
      refine iteF ?_
      walk_at "go"
      refine q f H2 nf s2 ?_
      rw [hF2, ← take_more hk, List.take_of_length_le (Nat.not_lt.mp fun z => by rw [List.getElem?_eq_getElem z] at hx; cases hx)]
    | some q2 =>
      rw [hx] at hQ
      refine brNT (by intro h; cases h) ?_
      walk_at "go"
      refine brT ?_ ?_
      · rw [List.length_map, List.length_append, List.length_take, List.length_singleton, BT.codeV_len]
        omega
      refine r_wh ?_
      walk_at "go"
      refine pile_last hF2 ?_
      walk_at "go"
      refine ⟨_, ?_, k + 1, q2, rfl, hx, rfl, same_mut s2 nf, ?_⟩
      · omega
      · rw [upd_same, take_more hk]
        show some (HO.lst (((t.path 0 p).take k ++ [q']).map (fun (n : Nat) => V.int (n : Int)) ++ [V.int (q2 : Int)])) = _
        rw [pile_push]
def sharedV (xs ys : List Nat) (i : Nat) : List V := (shared (xs.take i) ys).map fun (n : Nat) => V.int (n : Int)
theorem sharedV_yes {xs ys : List Nat} {i x : Nat} (h : xs[i]? = some x) (hx : x ∈ ys) : sharedV xs ys (i + 1) = sharedV xs ys i ++ [V.int (x : Int)] := by
  unfold sharedV shared
  rw [take_more h, List.filter_append, List.map_append, List.filter_cons, if_pos (decide_eq_true hx)]
  rfl
theorem sharedV_no {xs ys : List Nat} {i x : Nat} (h : xs[i]? = some x) (hx : x ∉ ys) : sharedV xs ys (i + 1) = sharedV xs ys i := by
  unfold sharedV shared
  rw [take_more h, List.filter_append, List.map_append, List.filter_cons, if_neg (by rw [decide_eq_false hx]; exact Bool.false_ne_true)]
  exact List.append_nil _
theorem sharedV_all (xs ys : List Nat) : sharedV xs ys xs.length = (shared xs ys).map fun (n : Nat) => V.int (n : Int) := by
  unfold sharedV
  rw [List.take_length]
theorem sharedV_len (xs ys : List Nat) (i : Nat) : (sharedV xs ys i).length ≤ xs.length := by
  unfold sharedV shared
  rw [List.length_map]
  refine Nat.le_trans (List.length_filter_le _ _) ?_
  rw [List.length_take]
  omega
theorem sc__law_all_right : FnScope ["script", "row", "kept", "tree", "place", "top", "cell", "first", "last", "one", "other", "shared"] ["script", "row", "kept"] (defScope s__law_all_right) := ⟨rfl, rfl, rfl, by decide +kernel, rfl, by decide +kernel, by decide +kernel⟩
def sp__law_all_right (K : PySem.W.Frag) (C : Addr) : Sp := fun vs H Q _ => ∃ (a p dx l k : Addr) (xs ns : List Int), vs = [.ref a, .ref p, .ref k] ∧ SqL K H a (xs.map V.int) ∧ H p = some (.ins C dx (rowF l)) ∧ H l = some (.lst (ns.map V.int)) ∧ H k = some (.lst (ns.map V.int)) ∧ ns.length ≤ 40 ∧ ∀ H', Same H H' → Q (.bl true) H'
theorem ok__law_all_right {f : Addr} {fd : FuncData} (F : Fun K "_law_all_right" "_law_all_right" s__law_all_right f fd) (T : Txt K mg C) (c_least : C8.Cal P w K mg base 2 "least" (sp_least K C) []) (c__law_up : C8.Cal P w K mg base 1 "_law_up" (sp__law_up K C) []) (c__law_places : C8.Cal P w K mg base 2 "_law_places" (sp__law_places K C) []) (c_tree_of : C8.Cal P w K mg base 44 "tree_of" (sp_tree_of K C) []) : FnOk P w K mg base CX0 45 f fd ["script", "row", "kept"] (sp__law_all_right K C) := by
  refine F.ok sc__law_all_right (fun vs H Q E h => ?_) (fun cdv A outer s H vs Q E hr h => ?_)
  · obtain ⟨a, p, dx, l, kp, xs, ns, rfl, hS, hp, hL, hk, hn, q⟩ := h
    rfl
  · obtain ⟨a, p, dx, l, kp, xs, ns, rfl, hS, hp, hL, hk, hn, q⟩ := h
    have hcl := T.cl
    have hnK := T.nK
    refine ⟨_, (pss_cons (ps_set (i := 3) sc__law_all_right.nd rfl (by first | exact Or.inl rfl | exact Or.inr rfl) (C8.pe_c c_tree_of hr (by decide) rfl (pa_cons (pv 1) pa_nil)))
      (pss_cons (ps_if (PW.pt (pw_or (pt_not (pt_val (C8.pe_c c__law_places hr (by decide) rfl (pa_cons (pv 3) (pa_cons (pe_callTy c_listOf (by rfl) T.b_list (by decide +kernel) (pa_cons (pv 3) pa_nil)) pa_nil))))) (pw_or1 (pt_cmpR op_ne (pe_callB c_len (by rfl) T.b_len PySem.boot_len (pa_cons (pv 3) pa_nil)) (pe_callB c_len (by rfl) T.b_len PySem.boot_len (pa_cons (pv 2) pa_nil)) (nomark _))))) (pss_one (ps_ret pe_bl)) pss_nil)
      (pss_cons (ps_for PassesOwn.never rfl (pi_range1 (by rfl) T.b_range (pa_cons (pe_callB c_len (by rfl) T.b_len PySem.boot_len (pa_cons (pv 2) pa_nil)) pa_nil)) (pg_name (i := 4) sc__law_all_right.nd rfl (by first | exact Or.inl rfl | exact Or.inr rfl)) (pss_cons (ps_set (i := 5) sc__law_all_right.nd rfl (by first | exact Or.inl rfl | exact Or.inr rfl) (pe_ix ix_list (pv 3) (pv 4) (fun _ _ => rfl)))
      (pss_one (ps_if (pt_cmpR o_notN (pv 5) pe_non (nomark _)) (pss_cons (ps_if (PW.pt (pw_or (pt_not (pt_chain op_le op_lt pe_int (pv 5) (pe_callB c_len (by rfl) T.b_len PySem.boot_len (pa_cons (pv 2) pa_nil)))) (pw_or1 (pt_cmpR op_gt (pe_ix ix_list (pv 2) (pv 5) (fun _ _ => rfl)) (pe_ix ix_list (pv 2) (pv 4) (fun _ _ => rfl)) (nomark _))))) (pss_one (ps_ret pe_bl)) pss_nil)
      (pss_one (ps_if (PW.pt (pw_and (pt_cmpR op_lt (pv 4) (pv 5) (nomark _)) (pw_and1 (pt_cmpR op_eq (pe_ix ix_list (pv 2) (pv 5) (fun _ _ => rfl)) (pe_ix ix_list (pv 2) (pv 4) (fun _ _ => rfl)) (nomark _))))) (pss_one (ps_ret pe_bl)) pss_nil))) pss_nil))))
      (pss_cons (ps_for PassesOwn.never rfl (pi_list (pe_slice sl_list (pv 0) (po_some pe_int) (po_some pe_int))) (pg_name (i := 6) sc__law_all_right.nd rfl (by first | exact Or.inl rfl | exact Or.inr rfl)) (pss_one (ps_if (pt_cmpR op_gt (pe_callB c_len (by rfl) T.b_len PySem.boot_len (pa_cons (pv 2) pa_nil)) pe_int (nomark _)) (pss_cons (ps_set (i := 7) sc__law_all_right.nd rfl (by first | exact Or.inl rfl | exact Or.inr rfl) (pe_op op_mod (pv 6) (pe_callB c_len (by rfl) T.b_len PySem.boot_len (pa_cons (pv 2) pa_nil))))
      (pss_cons (ps_set (i := 8) sc__law_all_right.nd rfl (by first | exact Or.inl rfl | exact Or.inr rfl) (pe_op op_add (pv 7) (pe_op op_mod (pe_op op_fdiv (pv 6) pe_int) (pe_op op_sub (pe_callB c_len (by rfl) T.b_len PySem.boot_len (pa_cons (pv 2) pa_nil)) (pv 7)))))
      (pss_cons (ps_set (i := 9) sc__law_all_right.nd rfl (by first | exact Or.inl rfl | exact Or.inr rfl) (C8.pe_c c__law_up hr (by decide) rfl (pa_cons (pv 3) (pa_cons (pv 7) pa_nil))))
      (pss_cons (ps_set (i := 10) sc__law_all_right.nd rfl (by first | exact Or.inl rfl | exact Or.inr rfl) (C8.pe_c c__law_up hr (by decide) rfl (pa_cons (pv 3) (pa_cons (pv 8) pa_nil))))
      (pss_cons (ps_setLc (i := 11) (own := [("place", 4)]) (g := gName 4) rfl sc__law_all_right.nd rfl rfl (sw_true rfl rfl rfl (by decide +kernel)) (pi_list (pv 9)) (blkOk_by (own := [("place", 4)]) (N := ["script", "row", "kept", "tree", "place", "top", "cell", "first", "last", "one", "other", "shared"]) (sc := (defScope s__law_all_right)) (by decide +kernel)) (fun _ _ _ _ _ => pg_name (i := 4) sc__law_all_right.nd rfl (by first | exact Or.inl rfl | exact Or.inr rfl)) (fun _ _ _ _ _ => pts_one (pt_cmpR (inS (K := K) rfl) (pv 4) (pv 10) (by rfl))) (fun _ _ _ _ _ => (pv 4)))
      (pss_one (ps_if (PW.pt (pw_or (pt_cmpR op_eq (pe_callB c_len (by rfl) T.b_len PySem.boot_len (pa_cons (pv 11) pa_nil)) pe_int (nomark _)) (pw_or1 (pt_cmpR (op_neD hr.units) (C8.pe_c c_least hr (by decide) rfl (pa_cons (pv 1) (pa_cons (pv 7) (pa_cons (pe_op op_add (pv 8) pe_int) pa_nil)))) (pe_tup (pa_cons (pe_ix ix_list (pv 2) (pe_ix ix_list (pv 11) pe_int (fun _ _ => rfl)) (fun _ _ => rfl)) (pa_cons (pe_ix ix_list (pv 11) pe_int (fun _ _ => rfl)) pa_nil))) (nomark _))))) (pss_one (ps_ret pe_bl)) pss_nil))))))) pss_nil)))
      (pss_one (ps_ret pe_bl)))))), ?_⟩
    obtain ⟨t, hC⟩ := cart_ex ns
    have hts := hC.size
    walk_at "go"
    refine ⟨p, dx, l, ns, t, rfl, hp, hL, hn, hC, fun x H1 nx s1 hx => ?_⟩
    have hk1 := s1 _ _ hk
    walk_at "go"
    walk_at "andor"
    walk_at "go"
    refine r_listOf (VT.SqL.lst hx) fun y ny => ?_
    have sA := same_new ny (.lst (t.codeV 0 none))
    walk_at "go"
    refine ⟨x, y, t.codeV 0 none, t.codeV 0 none, rfl, VT.SqL.lst (sA _ _ hx), VT.SqL.lst upd_same, BT.codeV_ok _ _ _, BT.codeV_ok _ _ _, ?_⟩
    have hx2 := sA _ _ hx
    have hk2 := sA _ _ hk1
    have s2 := s1.trans sA
    generalize upd H1 y (.lst (t.codeV 0 none)) = H2 at hx2 hk2 s2
    rw [decide_eq_true rfl]
    walk_at "go"
    refine iteF ?_
    walk_at "go"
    refine brNF (by rw [BT.codeV_len]; omega) ?_
    walk_at "go"
    refine r_loop0 (fun i σ H' => ∃ (v4 v5 : Option V), σ = [some (.ref a), some (.ref p), some (.ref kp), some (.ref x), v4, v5, none, none, none, none, none, none] ∧ H' = H2) ⟨_, _, rfl, rfl⟩ ?_ ?_
    · rintro i σ H' hi ⟨v4, v5, rfl, rfl⟩
      have hil : i < ns.length := by omega
      have hI : (ns.map V.int)[i]? = some (.int (ns.getD i 0)) := by
        rw [List.getElem?_map, getD_at' hil] <;> rfl
      rcases hC.links (Nat.le_refl _) none i (Nat.zero_le _) hil with e | ⟨q', u, v, e1, e2, e3, e4, e5, e6⟩
      · have hT : (t.codeV 0 none)[i]? = some V.non := by
          unfold BT.codeV
          rw [Nat.sub_zero] at e
          rw [List.getElem?_map, e] <;> rfl
        walk_at "go"
        refine iteF ?_
        walk_at "go"
        exact ⟨_, _, rfl, rfl⟩
      · have hT : (t.codeV 0 none)[i]? = some (V.int (q' : Int)) := by
          unfold BT.codeV
          rw [Nat.sub_zero] at e1
          rw [List.getElem?_map, e1] <;> rfl
        have hQ : (ns.map V.int)[q']? = some (.int u) := by
          rw [List.getElem?_map, e3] <;> rfl
        replace hI : (ns.map V.int)[i]? = some (.int v) := by
          rw [List.getElem?_map, e4] <;> rfl
        walk_at "go"
        refine brNT (by intro h; cases h) ?_
        walk_at "go"
        walk_at "andor"
        walk_at "go"
        refine brT (by omega) ?_
        walk_at "go"
        refine brNF (by omega) ?_
        walk_at "go"
        refine brF (by omega) ?_
        walk_at "go"
        walk_at "andor"
        walk_at "go"
        refine brD (fun c => ?_) (fun c => ?_)
        · walk_at "go"
          have := e6 (by omega)
          refine brF (by omega) ?_
          walk_at "go"
          exact ⟨_, _, rfl, rfl⟩
        · walk_at "go"
          exact ⟨_, _, rfl, rfl⟩
    rintro σ H' ⟨v4, v5, rfl, rfl⟩
    have hS2 := s2.seq hS
    walk_at "go"
    refine r_slL hS2 fun c nc => ?_
    obtain ⟨cs, hcs, hcl'⟩ := cut_int xs (some 41) (some 61)
    rw [hcs]
    have sB := same_new nc (.lst (cs.map V.int))
    have hc := @upd_same H' c (.lst (cs.map V.int))
    have hx3 := sB _ _ hx2
    have s3 := s2.trans sB
    generalize upd H' c (.lst (cs.map V.int)) = H3 at hc hx3 s3
    walk_at "go"
    refine r_loopI (ns := cs) (fun i σ H' => ∃ (v6 v7 v8 v9 v10 v11 : Option V), σ = [some (.ref a), some (.ref p), some (.ref kp), some (.ref x), v4, v5, v6, v7, v8, v9, v10, v11] ∧ Same H3 H') ⟨_, _, _, _, _, _, rfl, Same.refl _⟩ (fun i σ H' _ e => ?_) ?_ ?_
    · obtain ⟨_, _, _, _, _, _, _, s⟩ := e
      exact VT.SqL.lst (s _ _ hc)
    · rintro i z σ H4 hz ⟨v6, v7, v8, v9, v10, v11, rfl, s4⟩
      have s04 := s3.trans s4
      have hk4 := s04 _ _ hk
      have hx4 := s4 _ _ hx3
      walk_at "go"
      refine brD (fun c0 => ?_) (fun c0 => ?_)
      · have y0 := Int.emod_nonneg z (show (ns.length : Int) ≠ 0 by omega)
        have y1 := Int.emod_lt_of_pos z (show (0 : Int) < (ns.length : Int) by omega)
        obtain ⟨ii, hii⟩ : ∃ n : Nat, z % (ns.length : Int) = (n : Int) := ⟨(z % (ns.length : Int)).toNat, by omega⟩
        have z0 := Int.emod_nonneg (z / 50) (show (ns.length : Int) - (ii : Int) ≠ 0 by omega)
        have z1 := Int.emod_lt_of_pos (z / 50) (show (0 : Int) < (ns.length : Int) - (ii : Int) by omega)
        obtain ⟨d, hd⟩ : ∃ n : Nat, z / 50 % ((ns.length : Int) - (ii : Int)) = (n : Int) := ⟨(z / 50 % ((ns.length : Int) - (ii : Int))).toNat, by omega⟩
        walk_at "go"
        rw [hii]
        walk_at "go"
        rw [hd, show (ii : Int) + (d : Int) = ((ii + d : Nat) : Int) by omega]
        walk_at "go"
        refine ⟨x, t, ii, rfl, hx4, by omega, by omega, fun u H5 nu s5 hu => ?_⟩
        walk_at "go"
        refine ⟨x, t, ii + d, rfl, s5 _ _ hx4, by omega, by omega, fun w H6 nw s6 hw => ?_⟩
        have hu6 := s6 _ _ hu
        obtain ⟨m, h, hLe, hsh⟩ := shared_least hC (i := ii) (j := ii + d) (Nat.zero_le _) (by omega) (by omega)
        walk_at "go"
        refine r_LcL (VT.SqL.lst hu6) (sharedV (t.path 0 ii) (t.path 0 (ii + d))) rfl (fun i _ => Nat.le_trans (sharedV_len _ _ _) (by have := BT.path_len t 0 ii; omega)) (fun _ => rfl) (fun i y H' N Z hi s hN hZ => ?_) (fun D H7 nD s7 hD => ?_)
        · rw [List.getElem?_map] at hi
          cases hy : (t.path 0 ii)[i]? with
          | none => rw [hy] at hi; cases hi
          | some n =>
            rw [hy] at hi
            obtain rfl := Option.some.inj hi
            have hw5 := s _ _ hw
            walk_at "go"
            refine r_in (VT.SqL.lst hw5) rfl flat_nat ?_
            rw [inV_nat]
            walk_at "go"
            refine brD (fun c => ?_) (fun c => ?_)
            · walk_at "go"
              exact hN _ _ (Same.refl _) (sharedV_yes hy c)
            · exact hZ _ (Same.refl _) (sharedV_no hy c)
        rw [List.length_map, sharedV_all] at hD
        obtain ⟨rest, hrest⟩ : ∃ rest, shared (t.path 0 ii) (t.path 0 (ii + d)) = h :: rest := by
          cases hs : shared (t.path 0 ii) (t.path 0 (ii + d)) with
          | nil => rw [hs] at hsh; cases hsh
          | cons g rest => rw [hs] at hsh; exact ⟨rest, by rw [Option.some.inj hsh]⟩
        rw [hrest] at hD
        have g1 := hLe.lo
        have g2 := hLe.hi
        have s47 := (s5.trans s6).trans s7
        have s07 := s04.trans s47
        walk_at "go"
        walk_at "andor"
        walk_at "go"
        refine brF (by rw [List.length_map, List.length_cons]; omega) ?_
        walk_at "go"
        refine ⟨p, dx, l, ns, _, _, rfl, s07 _ _ hp, s07 _ _ hL, hn, by omega, by omega, by omega, fun e H8 m' a' s8 ne he hl' => ?_⟩
        rw [show ((ii : Nat) : Int).toNat = ii by omega, show (((ii + d : Nat) : Int) + 1).toNat = ii + d + 1 by omega] at hl'
        obtain ⟨rfl, rfl⟩ := hl'.uniq hLe
        have s08 := s07.trans s8
        have hk8 := s08 _ _ hk
        have hD8 := s8 _ _ hD
        have hM : (ns.map V.int)[a']? = some (.int m') := by
          rw [List.getElem?_map, hLe.val] <;> rfl
        walk_at "go"
        intro u2 nu2
        have sU := same_new nu2 (.tup [V.int m', V.int (a' : Int)])
        refine r_neT (SqT.tup (sU _ _ he)) (SqT.tup upd_same) rfl rfl ?_
        walk_at "go"
        refine brNF rfl ?_
        walk_at "go"
        exact ⟨_, _, _, _, _, _, rfl, ((s4.trans s47).trans s8).trans sU⟩
      · walk_at "go"
        exact ⟨_, _, _, _, _, _, rfl, s4⟩
    · rintro σ H4 ⟨v6, v7, v8, v9, v10, v11, rfl, s4⟩
      walk_at "go"
      exact q _ (s3.trans s4)
/-- what one deed makes of the numbers, as far as it matters: some numbers, none below nought where none was -/
structure Deed (ns ms : List Int) (low : Int) : Prop where
  len : ms.length ≤ 40
  ne : 0 < ms.length
  nn : 0 ≤ low → (∀ x ∈ ns, 0 ≤ x) → ∀ x ∈ ms, 0 ≤ x
theorem deed_set {ns : List Int} {low : Int} {j : Nat} {z : Int} (h : ns.length ≤ 40) (h0 : 0 < ns.length) (hz : 0 ≤ low → 0 ≤ z) : Deed ns (ns.set j z) low :=
  ⟨by rw [List.length_set]; exact h, by rw [List.length_set]; exact h0, fun l nn x hx => by
    rcases List.mem_or_eq_of_mem_set hx with e | e
    · exact nn x e
    · rw [e]
      exact hz l⟩
theorem deed_ins {ns : List Int} {low : Int} {j : Nat} {z : Int} (h : ns.length < 40) (hz : 0 ≤ low → 0 ≤ z) : Deed ns (ns.take j ++ [z] ++ ns.drop j) low :=
  ⟨by rw [List.length_append, List.length_append, List.length_take, List.length_drop, List.length_singleton]; omega, by rw [List.length_append, List.length_append, List.length_singleton]; omega, fun l nn x hx => by
    rcases List.mem_append.mp hx with e | e
    · rcases List.mem_append.mp e with e | e
      · exact nn x (List.mem_of_mem_take e)
      · rw [List.mem_singleton.mp e]
        exact hz l
    · exact nn x (List.mem_of_mem_drop e)⟩
theorem deed_pop {ns : List Int} {low : Int} {j : Nat} (h : ns.length ≤ 40) (h0 : 1 < ns.length) : Deed ns (ns.eraseIdx j) low :=
  ⟨by rw [List.length_eraseIdx]; split <;> omega, by rw [List.length_eraseIdx]; split <;> omega, fun _ nn x hx => nn x (List.mem_of_mem_eraseIdx hx)⟩
theorem addTo_nn {ns : List Int} {i k : Nat} {z : Int} (hz : 0 ≤ z) (nn : ∀ x ∈ ns, 0 ≤ x) : ∀ x ∈ addTo ns i k z, 0 ≤ x := by
  induction k with
  | zero => exact nn
  | succ k ih =>
    intro x hx
    rcases List.mem_or_eq_of_mem_set hx with e | e
    · exact ih x e
    · rw [e]
      have g : 0 ≤ (addTo ns i k z).getD (i + k) 0 := by
        rw [List.getD_eq_getElem?_getD]
        cases q : (addTo ns i k z)[i + k]? with
        | none => exact Int.le_refl 0
        | some y => exact ih y (List.mem_of_getElem? q)
      omega
theorem deed_add {ns : List Int} {low : Int} {i k : Nat} {z : Int} (h : ns.length ≤ 40) (h0 : 0 < ns.length) (hz : 0 ≤ low → 0 ≤ z) : Deed ns (addTo ns i k z) low :=
  ⟨by rw [addTo_len]; exact h, by rw [addTo_len]; exact h0, fun l nn => addTo_nn (hz l) nn⟩
def But2 (l k : Addr) (H H' : Hp) : Prop := ∀ b o, H b = some o → b ≠ l → b ≠ k → H' b = some o
theorem But2.refl {l k : Addr} (H : Hp) : But2 l k H H := fun _ _ e _ _ => e
theorem But2.up1 {l k : Addr} {H H' : Hp} {o : HO} (h : But2 l k H H') : But2 l k H (upd H' l o) := fun b u e n1 n2 => by
  rw [upd_ne n1]
  exact h b u e n1 n2
theorem But2.up2 {l k : Addr} {H H' : Hp} {o : HO} (h : But2 l k H H') : But2 l k H (upd H' k o) := fun b u e n1 n2 => by
  rw [upd_ne n2]
  exact h b u e n1 n2
theorem But2.thn {l k : Addr} {H H1 H' : Hp} (h : But2 l k H H1) (h' : But l H1 H') : But2 l k H H' := fun b u e n1 n2 => h' b u (h b u e n1 n2) n1
theorem But2.thn2 {l k : Addr} {H H1 H' : Hp} (h : But2 l k H H1) (h' : But k H1 H') : But2 l k H H' := fun b u e n1 n2 => h' b u (h b u e n1 n2) n2
theorem sc__law_deed : FnScope ["row", "kept", "cell", "low", "number", "at", "behind", "k"] ["row", "kept", "cell", "low"] (defScope s__law_deed) := ⟨rfl, rfl, rfl, by decide +kernel, rfl, by decide +kernel, by decide +kernel⟩
def sp__law_deed (_ : PySem.W.Frag) (C : Addr) : Sp := fun vs H Q _ => ∃ (p dx l k : Addr) (ns : List Int) (c low : Int), vs = [.ref p, .ref k, .int c, .int low] ∧ H p = some (.ins C dx (rowF l)) ∧ H l = some (.lst (ns.map V.int)) ∧ H k = some (.lst (ns.map V.int)) ∧ ns.length ≤ 40 ∧ 0 < ns.length ∧ p ≠ l ∧ p ≠ k ∧ l ≠ k ∧
  ∀ (H' : Hp) (ms : List Int), But2 l k H H' → H' l = some (.lst (ms.map V.int)) → H' k = some (.lst (ms.map V.int)) → Deed ns ms low → Q .non H'
theorem ok__law_deed {f : Addr} {fd : FuncData} (F : Fun K "_law_deed" "_law_deed" s__law_deed f fd) (T : Txt K mg C) (c_Row_set_at : C8.Met P w K mg base 2 C "set_at" (sp_Row_set_at K C) []) (c_Row_put_in : C8.Met P w K mg base 2 C "put_in" (sp_Row_put_in K C) []) (c_Row_take_out : C8.Met P w K mg base 2 C "take_out" (sp_Row_take_out K C) []) (c_Row_add_to : C8.Met P w K mg base 2 C "add_to" (sp_Row_add_to K C) []) : FnOk P w K mg base CX0 3 f fd ["row", "kept", "cell", "low"] (sp__law_deed K C) := by
  refine F.ok sc__law_deed (fun vs H Q E h => ?_) (fun cdv A outer s H vs Q E hr h => ?_)
  · obtain ⟨p, dx, l, k, ns, c, low, rfl, hp, hL, hk, hn, hn0, npl, npk, nlk, q⟩ := h
    rfl
  · obtain ⟨p, dx, l, k, ns, c, low, rfl, hp, hL, hk, hn, hn0, npl, npk, nlk, q⟩ := h
    have hcl := T.cl
    have hnK := T.nK
    refine ⟨_, (pss_cons (ps_set (i := 4) sc__law_deed.nd rfl (by first | exact Or.inl rfl | exact Or.inr rfl) (pe_op op_add (pv 3) (pe_op op_mod (pe_op op_fdiv (pv 2) pe_int) pe_int)))
      (pss_cons (ps_set (i := 5) sc__law_deed.nd rfl (by first | exact Or.inl rfl | exact Or.inr rfl) (pe_op op_mod (pe_op op_fdiv (pv 2) pe_int) (pe_callB c_len (by rfl) T.b_len PySem.boot_len (pa_cons (pv 1) pa_nil))))
      (pss_one (ps_if (pt_cmpR op_eq (pe_op op_mod (pv 2) pe_int) pe_int (nomark _)) (pss_cons (ps_asg (pv 4) (pg_sub (pv 1) (pv 5) set_list))
      (pss_one (ps_expr (C8.pe_mt c_Row_set_at hr (by decide) (pv 0) (pa_cons (pv 5) (pa_cons (pv 4) pa_nil)))))) (pss_one (ps_if (PW.pt (pw_and (pt_cmpR op_eq (pe_op op_mod (pv 2) pe_int) pe_int (nomark _)) (pw_and1 (pt_cmpR op_lt (pe_callB c_len (by rfl) T.b_len PySem.boot_len (pa_cons (pv 1) pa_nil)) pe_int (nomark _))))) (pss_cons (ps_expr (pe_bm PySem.F.plainAttrs_list PySem.F.slot_list_insert PySem.F.type_list_insert m_insert (pv 1) (pa_cons (pv 5) (pa_cons (pv 4) pa_nil))))
      (pss_one (ps_expr (C8.pe_mt c_Row_put_in hr (by decide) (pv 0) (pa_cons (pv 5) (pa_cons (pv 4) pa_nil)))))) (pss_one (ps_if (PW.pt (pw_and (pt_cmpR op_eq (pe_op op_mod (pv 2) pe_int) pe_int (nomark _)) (pw_and1 (pt_cmpR op_gt (pe_callB c_len (by rfl) T.b_len PySem.boot_len (pa_cons (pv 1) pa_nil)) pe_int (nomark _))))) (pss_cons (ps_expr (pe_bm PySem.F.plainAttrs_list PySem.F.slot_list_pop PySem.F.type_list_pop mt_popAt (pv 1) (pa_cons (pv 5) pa_nil)))
      (pss_one (ps_expr (C8.pe_mt c_Row_take_out hr (by decide) (pv 0) (pa_cons (pv 5) pa_nil))))) (pss_cons (ps_set (i := 6) sc__law_deed.nd rfl (by first | exact Or.inl rfl | exact Or.inr rfl) (pe_op op_add (pe_op op_add (pv 5) pe_int) (pe_op op_mod (pe_op op_fdiv (pv 2) pe_int) (pe_op op_sub (pe_callB c_len (by rfl) T.b_len PySem.boot_len (pa_cons (pv 1) pa_nil)) (pv 5)))))
      (pss_cons (ps_for PassesOwn.never rfl (pi_range2 (by rfl) T.b_range (pa_cons (pv 5) (pa_cons (pv 6) pa_nil))) (pg_name (i := 7) sc__law_deed.nd rfl (by first | exact Or.inl rfl | exact Or.inr rfl)) (pss_one (ps_asg (pe_op op_add (pe_ix ix_list (pv 1) (pv 7) (fun _ _ => rfl)) (pe_op op_mul pe_int (pv 4))) (pg_sub (pv 1) (pv 7) set_list))))
      (pss_one (ps_expr (C8.pe_mt c_Row_add_to hr (by decide) (pv 0) (pa_cons (pv 5) (pa_cons (pv 6) (pa_cons (pe_op op_mul pe_int (pv 4)) pa_nil)))))))))))))))), ?_⟩
    walk_at "go"
    have n0 := Int.emod_nonneg (c / 500) (show (9 : Int) ≠ 0 by decide)
    have z0 := Int.emod_nonneg (c / 5) (show (ns.length : Int) ≠ 0 by omega)
    have z1 := Int.emod_lt_of_pos (c / 5) (show (0 : Int) < (ns.length : Int) by omega)
    have hz : 0 ≤ low → 0 ≤ low + c / 500 % 9 := fun h => by omega
    have hz3 : 0 ≤ low → 0 ≤ 3 * (low + c / 500 % 9) := fun h => by omega
    generalize low + c / 500 % 9 = num at hz hz3
    generalize c / 5 % (ns.length : Int) = at' at z0 z1
    refine brD (fun e => ?_) (fun e => ?_)
    · walk_at "go"
      refine r_setL hk z0 z1 ?_
      walk_at "go"
      refine ⟨p, dx, l, ns, at', num, rfl, up_get npk hp, up_get nlk hL, z0, z1, ?_⟩
      walk_at "go"
      exact q _ (ns.set at'.toNat num) (But2.refl H).up2.up1 upd_same (up_get nlk.symm upd_same) (deed_set hn hn0 hz)
    walk_at "go"
    walk_at "and"
    refine brA (fun e2 e2' => ?_) (fun e2 => ?_)
    · walk_at "go"
      refine r_ins hk (by rw [List.length_map]; omega) z0 (by omega) ?_
      rw [← List.map_take, ← List.map_drop, snoc_int, ← List.map_append]
      walk_at "go"
      refine ⟨p, dx, l, ns, at', num, rfl, up_get npk hp, up_get nlk hL, by omega, z0, by omega, ?_⟩
      walk_at "go"
      exact q _ (ns.take at'.toNat ++ [num] ++ ns.drop at'.toNat) (But2.refl _).up2.up1 upd_same (up_get nlk.symm upd_same) (deed_ins (by omega) hz)
    walk_at "go"
    walk_at "and"
    refine brA (fun e3 e3' => ?_) (fun e3 => ?_)
    · have hat : ns[at'.toNat]? = some (ns.getD at'.toNat 0) := getD_at (by omega)
      walk_at "go"
      refine r_popAt hk z0 (by omega) hat ?_
      walk_at "go"
      refine ⟨p, dx, l, ns, at', ns.getD at'.toNat 0, rfl, up_get npk hp, up_get nlk hL, by omega, z0, hat, ?_⟩
      walk_at "go"
      exact q _ (ns.eraseIdx at'.toNat) (But2.refl _).up2.up1 upd_same (up_get nlk.symm upd_same) (deed_pop hn (by omega))
    have y0 := Int.emod_nonneg (c / 4500) (show (ns.length : Int) - at' ≠ 0 by omega)
    have y1 := Int.emod_lt_of_pos (c / 4500) (show (0 : Int) < (ns.length : Int) - at' by omega)
    walk_at "go"
    generalize c / 4500 % ((ns.length : Int) - at') = d at y0 y1
    refine r_loopR (fun i σ H1 => ∃ v, σ = [some (.ref p), some (.ref k), some (.int c), some (.int low), some (.int num), some (.int at'), some (.int (at' + 1 + d)), v] ∧ But k H H1 ∧ H1 k = some (.lst ((addTo ns at'.toNat i (3 * num)).map V.int))) ?_ ?_ ?_
    · exact ⟨_, rfl, But.of (Same.refl _), hk⟩
    · rintro i σ H1 hi ⟨v, rfl, b1, hk1⟩
      have hlen := addTo_len ns at'.toNat i (3 * num)
      have ek : (at' + (i : Int)).toNat = at'.toNat + i := by omega
      have hx : ((addTo ns at'.toNat i (3 * num)).map V.int)[(at' + (i : Int)).toNat]? = some (.int ((addTo ns at'.toNat i (3 * num)).getD (at'.toNat + i) 0)) := by
        rw [List.getElem?_map, ek, getD_at (by omega)] <;> rfl
      walk_at "go"
      refine r_ixL (VT.SqL.lst hk1) (r_at (by omega) hx) ?_
      walk_at "go"
      refine r_setL hk1 (by omega) (by omega) ?_
      refine ⟨_, rfl, b1.up, ?_⟩
      rw [upd_same, ek] <;> rfl
    · rintro σ H1 ⟨v, rfl, b1, hk1⟩
      walk_at "go"
      refine ⟨p, dx, l, ns, at', at' + 1 + d, 3 * num, rfl, b1 _ _ hp npk, b1 _ _ hL nlk, by omega, npl, z0, by omega, by omega, fun H2 b2 hl2 => ?_⟩
      walk_at "go"
      exact q H2 _ (((But2.refl _).thn2 b1).thn b2) hl2 (b2 _ _ hk1 nlk.symm) (deed_add hn hn0 hz3)
theorem sc_law : FnScope ["script", "kept", "row"] ["script"] (defScope s_law) := ⟨rfl, rfl, rfl, by decide +kernel, rfl, by decide +kernel, by decide +kernel⟩
def sp_law (K : PySem.W.Frag) (_ : Addr) : Sp := fun vs H Q _ => ∃ (a : Addr) (ns : List Int), vs = [.ref a] ∧ SqL K H a (ns.map V.int) ∧ ns.length ≤ 63 ∧ ∀ H', Q (.bl true) H'
theorem law_in {K : PySem.W.Frag} {H : Hp} {a : Addr} {ns : List Int} {E : XK} (hS : SqL K H a (ns.map V.int)) (hl : ns.length ≤ 63) : sp_law K 0 [.ref a] H (fun v _ => v = .bl true) E := ⟨a, ns, rfl, hS, hl, fun _ => rfl⟩
theorem ok_law {f : Addr} {fd : FuncData} (F : Fun K "law" "law" s_law f fd) (T : Txt K mg C) (c__law_all_right : C8.Cal P w K mg base 45 "_law_all_right" (sp__law_all_right K C) []) (c__law_deed : C8.Cal P w K mg base 3 "_law_deed" (sp__law_deed K C) []) (c__law_cell_at : C8.Cal P w K mg base 1 "_law_cell_at" (sp__law_cell_at K C) []) (c_Row : C8.Mak P w K mg base 1 "Row" C (sp_Row___init__ K C) []) (c__law_row : C8.Cal P w K mg base 2 "_law_row" (sp__law_row K C) []) : FnOk P w K mg base CX0 46 f fd ["script"] (sp_law K C) := by
  refine F.ok sc_law (fun vs H Q E h => ?_) (fun cdv A outer s H vs Q E hr h => ?_)
  · obtain ⟨a, ns, rfl, hS, hl, k⟩ := h
    rfl
  · obtain ⟨a, ns, rfl, hS, hl, k⟩ := h
    have hcl := T.cl
    have hnK := T.nK
    refine ⟨_, (pss_cons (ps_set (i := 1) sc_law.nd rfl (by first | exact Or.inl rfl | exact Or.inr rfl) (C8.pe_c c__law_row hr (by decide) rfl (pa_cons (pv 0) (pa_cons pe_int (pa_cons pe_int pa_nil)))))
      (pss_cons (ps_set (i := 2) sc_law.nd rfl (by first | exact Or.inl rfl | exact Or.inr rfl) (C8.pe_mk c_Row hr (by decide) rfl (pa_cons (pe_callTy c_listOf (by rfl) T.b_list (by decide +kernel) (pa_cons (pv 1) pa_nil)) pa_nil)))
      (pss_cons (ps_if (pt_not (pt_val (C8.pe_c c__law_all_right hr (by decide) rfl (pa_cons (pv 0) (pa_cons (pv 2) (pa_cons (pv 1) pa_nil)))))) (pss_one (ps_ret pe_bl)) pss_nil)
      (pss_cons (ps_if (pt_cmpR op_eq (pe_callB c_len (by rfl) T.b_len PySem.boot_len (pa_cons (pv 1) pa_nil)) pe_int (nomark _)) (pss_one (ps_ret pe_bl)) pss_nil)
      (pss_cons (ps_expr (C8.pe_c c__law_deed hr (by decide) rfl (pa_cons (pv 2) (pa_cons (pv 1) (pa_cons (C8.pe_c c__law_cell_at hr (by decide) rfl (pa_cons (pv 0) (pa_cons pe_int pa_nil))) (pa_cons (pe_un un_neg pe_int) pa_nil))))))
      (pss_one (ps_ret (C8.pe_c c__law_all_right hr (by decide) rfl (pa_cons (pv 0) (pa_cons (pv 2) (pa_cons (pv 1) pa_nil))))))))))), ?_⟩
    walk_at "go"
    refine ⟨a, ns, 0, 40, rfl, hS, by omega, by omega, by omega, by omega, fun kp ms H1 nk s1 hk hm _ => ?_⟩
    walk_at "go"
    refine r_listOf (VT.SqL.lst hk) fun ha nha => ?_
    have sA := same_new nha (.lst (ms.map V.int))
    walk_at "go"
    refine mk_row (ns := ms) (VT.SqL.lst upd_same) (by omega) fun p l d H2 s2 np nl npl hp hl => ?_
    have s12 := sA.trans s2
    have hk2 := s12 _ _ hk
    have npk : p ≠ kp := (ne_of_none (sA _ _ hk) np).symm
    have nlk : l ≠ kp := (ne_of_none (sA _ _ hk) nl).symm
    have hS2 := (s1.trans s12).seq hS
    walk_at "go"
    refine ⟨a, p, d, l, kp, ns, ms, rfl, hS2, hp, hl, hk2, by omega, fun H3 s3 => ?_⟩
    have hk3 := s3 _ _ hk2
    walk_at "go"
    refine iteF ?_
    walk_at "go"
    refine brD (fun c => ?_) (fun c => ?_)
    · walk_at "go"
      exact k _
    walk_at "go"
    refine ⟨a, ns, 61, rfl, s3.seq hS2, by omega, ?_⟩
    walk_at "go"
    refine ⟨p, d, l, kp, ms, _, _, rfl, s3 _ _ hp, s3 _ _ hl, hk3, by omega, by omega, npl, npk, nlk, fun H4 ks b4 hl4 hk4 hd => ?_⟩
    walk_at "go"
    refine ⟨a, p, d, l, kp, ns, ks, rfl, ?_, b4 _ _ (s3 _ _ hp) npl npk, hl4, hk4, hd.len, fun H5 s5 => ?_⟩
    · exact SqL.keep hS fun o ho => b4 _ _ ((s3 _ _ (s12 _ _ (s1 _ _ ho)))) (ne_of_none (sA _ _ (s1 _ _ ho)) nl) (ne_of_none ho nk)
    exact k _
end
theorem all_mk {l : PySem.W.OpenLaw} {w : World} {K : PySem.W.Frag} {h : Heap} {mg : Str → Option Value} {fa C : Addr} {f1 f2 f3 f4 f5 f6 f7 f8 f9 f10 f11 f12 f13 f14 f15 f16 f17 f18 f19 f20 f21 : Addr} (X : K.In h) (G : h.Ns mainGlobals mg) (hfa : mg "law" = some (.ref fa))
    (aC : PySem.W.nsIn K mainGlobals "Row" = some (some (.ref C))) (pg : PySem.W.plainGet K C Str.empty = true) (hd : PySem.W.hasDictIn K C = true) (po : PySem.W.plainOver K C = true) (sa : PySem.W.findIn K (.ref C) "__setattr__" = some (some (.builtin "object.__setattr__"))) (mk : PySem.W.makesIn K C = true) (kc : PySem.W.keepIn K (.ref C) = true) (nK : PySem.W.findIn K (.ref C) "kept" = some none)
    {od1 an1 : Option Addr} {sl1 : Array (Option Value)} {oc1 kV1 dc1 pm1 cd1 ct1 : Value}
    (a1 : PySem.W.findIn K (.ref C) "__init__" = some (some (.ref f1))) (i1 : PySem.W.isFn K (.ref f1) = true)
    (l1 : K.lookup f1 = some ⟨oc1, od1, .func (PySem.W.fnOf "__init__" "Row.__init__" (defArgs s_Row___init__) (defBody s_Row___init__) (defScope s_Row___init__) .none kV1 dc1 pm1 an1 cd1 ct1), sl1⟩) (c1 : PySem.W.codeIn K cd1 "Row.__init__" = true) (k1 : PySem.W.keepIn K (.ref f1) = true)
    {od2 an2 : Option Addr} {sl2 : Array (Option Value)} {oc2 kV2 dc2 pm2 cd2 ct2 : Value}
    (a2 : PySem.W.findIn K (.ref C) "ask" = some (some (.ref f2))) (i2 : PySem.W.isFn K (.ref f2) = true)
    (l2 : K.lookup f2 = some ⟨oc2, od2, .func (PySem.W.fnOf "ask" "Row.ask" (defArgs s_Row_ask) (defBody s_Row_ask) (defScope s_Row_ask) .none kV2 dc2 pm2 an2 cd2 ct2), sl2⟩) (c2 : PySem.W.codeIn K cd2 "Row.ask" = true) (k2 : PySem.W.keepIn K (.ref f2) = true)
    {od3 an3 : Option Addr} {sl3 : Array (Option Value)} {oc3 kV3 dc3 pm3 cd3 ct3 : Value}
    (a3 : PySem.W.findIn K (.ref C) "ask_stretch" = some (some (.ref f3))) (i3 : PySem.W.isFn K (.ref f3) = true)
    (l3 : K.lookup f3 = some ⟨oc3, od3, .func (PySem.W.fnOf "ask_stretch" "Row.ask_stretch" (defArgs s_Row_ask_stretch) (defBody s_Row_ask_stretch) (defScope s_Row_ask_stretch) .none kV3 dc3 pm3 an3 cd3 ct3), sl3⟩) (c3 : PySem.W.codeIn K cd3 "Row.ask_stretch" = true) (k3 : PySem.W.keepIn K (.ref f3) = true)
    {od4 an4 : Option Addr} {sl4 : Array (Option Value)} {oc4 kV4 dc4 pm4 cd4 ct4 : Value}
    (a4 : PySem.W.findIn K (.ref C) "numbers" = some (some (.ref f4))) (i4 : PySem.W.isFn K (.ref f4) = true)
    (l4 : K.lookup f4 = some ⟨oc4, od4, .func (PySem.W.fnOf "numbers" "Row.numbers" (defArgs s_Row_numbers) (defBody s_Row_numbers) (defScope s_Row_numbers) .none kV4 dc4 pm4 an4 cd4 ct4), sl4⟩) (c4 : PySem.W.codeIn K cd4 "Row.numbers" = true) (k4 : PySem.W.keepIn K (.ref f4) = true)
    {od5 an5 : Option Addr} {sl5 : Array (Option Value)} {oc5 kV5 dc5 pm5 cd5 ct5 : Value}
    (a5 : PySem.W.findIn K (.ref C) "set_at" = some (some (.ref f5))) (i5 : PySem.W.isFn K (.ref f5) = true)
    (l5 : K.lookup f5 = some ⟨oc5, od5, .func (PySem.W.fnOf "set_at" "Row.set_at" (defArgs s_Row_set_at) (defBody s_Row_set_at) (defScope s_Row_set_at) .none kV5 dc5 pm5 an5 cd5 ct5), sl5⟩) (c5 : PySem.W.codeIn K cd5 "Row.set_at" = true) (k5 : PySem.W.keepIn K (.ref f5) = true)
    {od6 an6 : Option Addr} {sl6 : Array (Option Value)} {oc6 kV6 dc6 pm6 cd6 ct6 : Value}
    (a6 : PySem.W.findIn K (.ref C) "take_out" = some (some (.ref f6))) (i6 : PySem.W.isFn K (.ref f6) = true)
    (l6 : K.lookup f6 = some ⟨oc6, od6, .func (PySem.W.fnOf "take_out" "Row.take_out" (defArgs s_Row_take_out) (defBody s_Row_take_out) (defScope s_Row_take_out) .none kV6 dc6 pm6 an6 cd6 ct6), sl6⟩) (c6 : PySem.W.codeIn K cd6 "Row.take_out" = true) (k6 : PySem.W.keepIn K (.ref f6) = true)
    {od7 an7 : Option Addr} {sl7 : Array (Option Value)} {oc7 kV7 dc7 pm7 cd7 ct7 : Value}
    (a7 : PySem.W.findIn K (.ref C) "put_in" = some (some (.ref f7))) (i7 : PySem.W.isFn K (.ref f7) = true)
    (l7 : K.lookup f7 = some ⟨oc7, od7, .func (PySem.W.fnOf "put_in" "Row.put_in" (defArgs s_Row_put_in) (defBody s_Row_put_in) (defScope s_Row_put_in) .none kV7 dc7 pm7 an7 cd7 ct7), sl7⟩) (c7 : PySem.W.codeIn K cd7 "Row.put_in" = true) (k7 : PySem.W.keepIn K (.ref f7) = true)
    {od8 an8 : Option Addr} {sl8 : Array (Option Value)} {oc8 kV8 dc8 pm8 cd8 ct8 : Value}
    (a8 : PySem.W.findIn K (.ref C) "add_to" = some (some (.ref f8))) (i8 : PySem.W.isFn K (.ref f8) = true)
    (l8 : K.lookup f8 = some ⟨oc8, od8, .func (PySem.W.fnOf "add_to" "Row.add_to" (defArgs s_Row_add_to) (defBody s_Row_add_to) (defScope s_Row_add_to) .none kV8 dc8 pm8 an8 cd8 ct8), sl8⟩) (c8 : PySem.W.codeIn K cd8 "Row.add_to" = true) (k8 : PySem.W.keepIn K (.ref f8) = true)
    {od9 an9 : Option Addr} {sl9 : Array (Option Value)} {oc9 kV9 dc9 pm9 cd9 ct9 : Value}
    (a9 : PySem.W.nsIn K mainGlobals "over" = some (some (.ref f9)))
    (l9 : K.lookup f9 = some ⟨oc9, od9, .func (PySem.W.fnOf "over" "over" (defArgs s_over) (defBody s_over) (defScope s_over) .none kV9 dc9 pm9 an9 cd9 ct9), sl9⟩) (c9 : PySem.W.codeIn K cd9 "over" = true) (k9 : PySem.W.keepIn K (.ref f9) = true)
    {od10 an10 : Option Addr} {sl10 : Array (Option Value)} {oc10 kV10 dc10 pm10 cd10 ct10 : Value}
    (a10 : PySem.W.nsIn K mainGlobals "tree_over" = some (some (.ref f10)))
    (l10 : K.lookup f10 = some ⟨oc10, od10, .func (PySem.W.fnOf "tree_over" "tree_over" (defArgs s_tree_over) (defBody s_tree_over) (defScope s_tree_over) .none kV10 dc10 pm10 an10 cd10 ct10), sl10⟩) (c10 : PySem.W.codeIn K cd10 "tree_over" = true) (k10 : PySem.W.keepIn K (.ref f10) = true)
    {od11 an11 : Option Addr} {sl11 : Array (Option Value)} {oc11 kV11 dc11 pm11 cd11 ct11 : Value}
    (a11 : PySem.W.nsIn K mainGlobals "tree_of" = some (some (.ref f11)))
    (l11 : K.lookup f11 = some ⟨oc11, od11, .func (PySem.W.fnOf "tree_of" "tree_of" (defArgs s_tree_of) (defBody s_tree_of) (defScope s_tree_of) .none kV11 dc11 pm11 an11 cd11 ct11), sl11⟩) (c11 : PySem.W.codeIn K cd11 "tree_of" = true) (k11 : PySem.W.keepIn K (.ref f11) = true)
    {od12 an12 : Option Addr} {sl12 : Array (Option Value)} {oc12 kV12 dc12 pm12 cd12 ct12 : Value}
    (a12 : PySem.W.nsIn K mainGlobals "least" = some (some (.ref f12)))
    (l12 : K.lookup f12 = some ⟨oc12, od12, .func (PySem.W.fnOf "least" "least" (defArgs s_least) (defBody s_least) (defScope s_least) .none kV12 dc12 pm12 an12 cd12 ct12), sl12⟩) (c12 : PySem.W.codeIn K cd12 "least" = true) (k12 : PySem.W.keepIn K (.ref f12) = true)
    {od13 an13 : Option Addr} {sl13 : Array (Option Value)} {oc13 kV13 dc13 pm13 cd13 ct13 : Value}
    (a13 : PySem.W.nsIn K mainGlobals "_law_cell_at" = some (some (.ref f13)))
    (l13 : K.lookup f13 = some ⟨oc13, od13, .func (PySem.W.fnOf "_law_cell_at" "_law_cell_at" (defArgs s__law_cell_at) (defBody s__law_cell_at) (defScope s__law_cell_at) .none kV13 dc13 pm13 an13 cd13 ct13), sl13⟩) (c13 : PySem.W.codeIn K cd13 "_law_cell_at" = true) (k13 : PySem.W.keepIn K (.ref f13) = true)
    {od14 an14 : Option Addr} {sl14 : Array (Option Value)} {oc14 kV14 dc14 pm14 cd14 ct14 : Value}
    (a14 : PySem.W.nsIn K mainGlobals "_law_whole" = some (some (.ref f14)))
    (l14 : K.lookup f14 = some ⟨oc14, od14, .func (PySem.W.fnOf "_law_whole" "_law_whole" (defArgs s__law_whole) (defBody s__law_whole) (defScope s__law_whole) .none kV14 dc14 pm14 an14 cd14 ct14), sl14⟩) (c14 : PySem.W.codeIn K cd14 "_law_whole" = true) (k14 : PySem.W.keepIn K (.ref f14) = true)
    {od15 an15 : Option Addr} {sl15 : Array (Option Value)} {oc15 kV15 dc15 pm15 cd15 ct15 : Value}
    (a15 : PySem.W.nsIn K mainGlobals "_law_draw" = some (some (.ref f15)))
    (l15 : K.lookup f15 = some ⟨oc15, od15, .func (PySem.W.fnOf "_law_draw" "_law_draw" (defArgs s__law_draw) (defBody s__law_draw) (defScope s__law_draw) .none kV15 dc15 pm15 an15 cd15 ct15), sl15⟩) (c15 : PySem.W.codeIn K cd15 "_law_draw" = true) (k15 : PySem.W.keepIn K (.ref f15) = true)
    {od16 an16 : Option Addr} {sl16 : Array (Option Value)} {oc16 kV16 dc16 pm16 cd16 ct16 : Value}
    (a16 : PySem.W.nsIn K mainGlobals "_law_row" = some (some (.ref f16)))
    (l16 : K.lookup f16 = some ⟨oc16, od16, .func (PySem.W.fnOf "_law_row" "_law_row" (defArgs s__law_row) (defBody s__law_row) (defScope s__law_row) .none kV16 dc16 pm16 an16 cd16 ct16), sl16⟩) (c16 : PySem.W.codeIn K cd16 "_law_row" = true) (k16 : PySem.W.keepIn K (.ref f16) = true)
    {od17 an17 : Option Addr} {sl17 : Array (Option Value)} {oc17 kV17 dc17 pm17 cd17 ct17 : Value}
    (a17 : PySem.W.nsIn K mainGlobals "_law_places" = some (some (.ref f17)))
    (l17 : K.lookup f17 = some ⟨oc17, od17, .func (PySem.W.fnOf "_law_places" "_law_places" (defArgs s__law_places) (defBody s__law_places) (defScope s__law_places) .none kV17 dc17 pm17 an17 cd17 ct17), sl17⟩) (c17 : PySem.W.codeIn K cd17 "_law_places" = true) (k17 : PySem.W.keepIn K (.ref f17) = true)
    {od18 an18 : Option Addr} {sl18 : Array (Option Value)} {oc18 kV18 dc18 pm18 cd18 ct18 : Value}
    (a18 : PySem.W.nsIn K mainGlobals "_law_up" = some (some (.ref f18)))
    (l18 : K.lookup f18 = some ⟨oc18, od18, .func (PySem.W.fnOf "_law_up" "_law_up" (defArgs s__law_up) (defBody s__law_up) (defScope s__law_up) .none kV18 dc18 pm18 an18 cd18 ct18), sl18⟩) (c18 : PySem.W.codeIn K cd18 "_law_up" = true) (k18 : PySem.W.keepIn K (.ref f18) = true)
    {od19 an19 : Option Addr} {sl19 : Array (Option Value)} {oc19 kV19 dc19 pm19 cd19 ct19 : Value}
    (a19 : PySem.W.nsIn K mainGlobals "_law_all_right" = some (some (.ref f19)))
    (l19 : K.lookup f19 = some ⟨oc19, od19, .func (PySem.W.fnOf "_law_all_right" "_law_all_right" (defArgs s__law_all_right) (defBody s__law_all_right) (defScope s__law_all_right) .none kV19 dc19 pm19 an19 cd19 ct19), sl19⟩) (c19 : PySem.W.codeIn K cd19 "_law_all_right" = true) (k19 : PySem.W.keepIn K (.ref f19) = true)
    {od20 an20 : Option Addr} {sl20 : Array (Option Value)} {oc20 kV20 dc20 pm20 cd20 ct20 : Value}
    (a20 : PySem.W.nsIn K mainGlobals "_law_deed" = some (some (.ref f20)))
    (l20 : K.lookup f20 = some ⟨oc20, od20, .func (PySem.W.fnOf "_law_deed" "_law_deed" (defArgs s__law_deed) (defBody s__law_deed) (defScope s__law_deed) .none kV20 dc20 pm20 an20 cd20 ct20), sl20⟩) (c20 : PySem.W.codeIn K cd20 "_law_deed" = true) (k20 : PySem.W.keepIn K (.ref f20) = true)
    {od21 an21 : Option Addr} {sl21 : Array (Option Value)} {oc21 kV21 dc21 pm21 cd21 ct21 : Value}
    (a21 : PySem.W.nsIn K mainGlobals "law" = some (some (.ref f21)))
    (l21 : K.lookup f21 = some ⟨oc21, od21, .func (PySem.W.fnOf "law" "law" (defArgs s_law) (defBody s_law) (defScope s_law) .none kV21 dc21 pm21 an21 cd21 ct21), sl21⟩) (c21 : PySem.W.codeIn K cd21 "law" = true) (k21 : PySem.W.keepIn K (.ref f21) = true)
    (z_bool : PySem.W.nsIn K mainGlobals "bool" = some none)
    (z_int : PySem.W.nsIn K mainGlobals "int" = some none)
    (z_isinstance : PySem.W.nsIn K mainGlobals "isinstance" = some none)
    (z_len : PySem.W.nsIn K mainGlobals "len" = some none)
    (z_list : PySem.W.nsIn K mainGlobals "list" = some none)
    (z_min : PySem.W.nsIn K mainGlobals "min" = some none)
    (z_range : PySem.W.nsIn K mainGlobals "range" = some none)
    {tk_MOST : Tok} (g_MOST : PySem.W.nsIn K mainGlobals "MOST" = some (some (.int 40 tk_MOST)))
    : ∃ fd : FuncData, (∀ (s : Shared) (v : Value), BindsTo s fd ⟨[v], []⟩ [("script", v)]) ∧ ∀ base : Heap, K.In base → base.Ns mainGlobals mg → FnOk l.prog w K mg base CX0 46 fa fd ["script"] (sp_law K 0) := by
  have e := hfa.symm.trans (PySem.W.mg_of X G a21)
  cases e
  have T : Txt K mg C := { cl := ⟨pg, hd, po, sa⟩, nK := nK, mgC := PySem.W.mg_of X G aC, b_bool := PySem.W.mg_none_of X G z_bool, b_int := PySem.W.mg_none_of X G z_int, b_isinstance := PySem.W.mg_none_of X G z_isinstance, b_len := PySem.W.mg_none_of X G z_len, b_list := PySem.W.mg_none_of X G z_list, b_min := PySem.W.mg_none_of X G z_min, b_range := PySem.W.mg_none_of X G z_range, g_MOST := ⟨_, PySem.W.mg_of X G g_MOST, ⟨_, rfl⟩⟩ }
  have F1 := fun_mk (st := s_Row___init__) l1 c1 k1
  have b1 := F1.binds (ps := ["self", "numbers"]) fun _ _ _ _ _ _ us hl => match us, hl with | [_, _], _ => rfl
  have F2 := fun_mk (st := s_Row_ask) l2 c2 k2
  have b2 := F2.binds (ps := ["self", "place", "many"]) fun _ _ _ _ _ _ us hl => match us, hl with | [_, _, _], _ => rfl
  have F3 := fun_mk (st := s_Row_ask_stretch) l3 c3 k3
  have b3 := F3.binds (ps := ["self", "first", "behind"]) fun _ _ _ _ _ _ us hl => match us, hl with | [_, _, _], _ => rfl
  have F4 := fun_mk (st := s_Row_numbers) l4 c4 k4
  have b4 := F4.binds (ps := ["self"]) fun _ _ _ _ _ _ us hl => match us, hl with | [_], _ => rfl
  have F5 := fun_mk (st := s_Row_set_at) l5 c5 k5
  have b5 := F5.binds (ps := ["self", "place", "number"]) fun _ _ _ _ _ _ us hl => match us, hl with | [_, _, _], _ => rfl
  have F6 := fun_mk (st := s_Row_take_out) l6 c6 k6
  have b6 := F6.binds (ps := ["self", "place"]) fun _ _ _ _ _ _ us hl => match us, hl with | [_, _], _ => rfl
  have F7 := fun_mk (st := s_Row_put_in) l7 c7 k7
  have b7 := F7.binds (ps := ["self", "place", "number"]) fun _ _ _ _ _ _ us hl => match us, hl with | [_, _, _], _ => rfl
  have F8 := fun_mk (st := s_Row_add_to) l8 c8 k8
  have b8 := F8.binds (ps := ["self", "first", "behind", "number"]) fun _ _ _ _ _ _ us hl => match us, hl with | [_, _, _, _], _ => rfl
  have F9 := fun_mk (st := s_over) l9 c9 k9
  have b9 := F9.binds (ps := ["numbers", "first", "behind", "top", "found"]) fun _ _ _ _ _ _ us hl => match us, hl with | [_, _, _, _, _], _ => rfl
  have F10 := fun_mk (st := s_tree_over) l10 c10 k10
  have b10 := F10.binds (ps := ["numbers"]) fun _ _ _ _ _ _ us hl => match us, hl with | [_], _ => rfl
  have F11 := fun_mk (st := s_tree_of) l11 c11 k11
  have b11 := F11.binds (ps := ["row"]) fun _ _ _ _ _ _ us hl => match us, hl with | [_], _ => rfl
  have F12 := fun_mk (st := s_least) l12 c12 k12
  have b12 := F12.binds (ps := ["row", "first", "behind"]) fun _ _ _ _ _ _ us hl => match us, hl with | [_, _, _], _ => rfl
  have F13 := fun_mk (st := s__law_cell_at) l13 c13 k13
  have b13 := F13.binds (ps := ["script", "k"]) fun _ _ _ _ _ _ us hl => match us, hl with | [_, _], _ => rfl
  have F14 := fun_mk (st := s__law_whole) l14 c14 k14
  have b14 := F14.binds (ps := ["found"]) fun _ _ _ _ _ _ us hl => match us, hl with | [_], _ => rfl
  have F15 := fun_mk (st := s__law_draw) l15 c15 k15
  have b15 := F15.binds (ps := ["cell", "k", "bound"]) fun _ _ _ _ _ _ us hl => match us, hl with | [_, _, _], _ => rfl
  have F16 := fun_mk (st := s__law_row) l16 c16 k16
  have b16 := F16.binds (ps := ["script", "at", "most"]) fun _ _ _ _ _ _ us hl => match us, hl with | [_, _, _], _ => rfl
  have F17 := fun_mk (st := s__law_places) l17 c17 k17
  have b17 := F17.binds (ps := ["found", "due"]) fun _ _ _ _ _ _ us hl => match us, hl with | [_, _], _ => rfl
  have F18 := fun_mk (st := s__law_up) l18 c18 k18
  have b18 := F18.binds (ps := ["tree", "place"]) fun _ _ _ _ _ _ us hl => match us, hl with | [_, _], _ => rfl
  have F19 := fun_mk (st := s__law_all_right) l19 c19 k19
  have b19 := F19.binds (ps := ["script", "row", "kept"]) fun _ _ _ _ _ _ us hl => match us, hl with | [_, _, _], _ => rfl
  have F20 := fun_mk (st := s__law_deed) l20 c20 k20
  have b20 := F20.binds (ps := ["row", "kept", "cell", "low"]) fun _ _ _ _ _ _ us hl => match us, hl with | [_, _, _, _], _ => rfl
  have F21 := fun_mk (st := s_law) l21 c21 k21
  have b21 := F21.binds (ps := ["script"]) fun _ _ _ _ _ _ us hl => match us, hl with | [_], _ => rfl
  refine ⟨PySem.W.fnOf "law" "law" (defArgs s_law) (defBody s_law) (defScope s_law) .none kV21 dc21 pm21 an21 cd21 ct21, fun s v => .of_eq rfl, fun base _ _ => ?_⟩
  have c_Row : C8.Mak l.prog w K mg base 1 "Row" C (sp_Row___init__ K C) [] := ⟨f1, _, ["self", "numbers"], [], ⟨mk, a1, i1, kc⟩, ok_Row___init__ F1 T , T.mgC, b1, .nil⟩
  have c_Row_ask : C8.Met l.prog w K mg base 1 C "ask" (sp_Row_ask K C) [] := ⟨f2, _, ["self", "place", "many"], [], T.cl, ⟨a2, i2, k2⟩, ok_Row_ask F2 T , b2, .nil⟩
  have c_Row_ask_stretch : C8.Met l.prog w K mg base 1 C "ask_stretch" (sp_Row_ask_stretch K C) [] := ⟨f3, _, ["self", "first", "behind"], [], T.cl, ⟨a3, i3, k3⟩, ok_Row_ask_stretch F3 T , b3, .nil⟩
  have c_Row_numbers : C8.Met l.prog w K mg base 1 C "numbers" (sp_Row_numbers K C) [] := ⟨f4, _, ["self"], [], T.cl, ⟨a4, i4, k4⟩, ok_Row_numbers F4 T , b4, .nil⟩
  have c_Row_set_at : C8.Met l.prog w K mg base 2 C "set_at" (sp_Row_set_at K C) [] := ⟨f5, _, ["self", "place", "number"], [], T.cl, ⟨a5, i5, k5⟩, ok_Row_set_at F5 T c_Row_ask, b5, .nil⟩
  have c_Row_take_out : C8.Met l.prog w K mg base 2 C "take_out" (sp_Row_take_out K C) [] := ⟨f6, _, ["self", "place"], [], T.cl, ⟨a6, i6, k6⟩, ok_Row_take_out F6 T c_Row_ask, b6, .nil⟩
  have c_Row_put_in : C8.Met l.prog w K mg base 2 C "put_in" (sp_Row_put_in K C) [] := ⟨f7, _, ["self", "place", "number"], [], T.cl, ⟨a7, i7, k7⟩, ok_Row_put_in F7 T c_Row_ask, b7, .nil⟩
  have c_Row_add_to : C8.Met l.prog w K mg base 2 C "add_to" (sp_Row_add_to K C) [] := ⟨f8, _, ["self", "first", "behind", "number"], [], T.cl, ⟨a8, i8, k8⟩, ok_Row_add_to F8 T c_Row_ask_stretch, b8, .nil⟩
  have c_over : ∀ n : Nat, C8.Cal l.prog w K mg base (0 + n) "over" (sp_over K C n) [] := by
    intro n
    induction n with
    | zero => exact ⟨_, _, ["numbers", "first", "behind", "top", "found"], [], fnOk_no no_over, PySem.W.mg_of X G a9, k9, b9, .nil⟩
    | succ n ih => exact ⟨_, _, ["numbers", "first", "behind", "top", "found"], [], ok_over F9 T ih, PySem.W.mg_of X G a9, k9, b9, .nil⟩
  replace c_over := c_over 42
  have c_tree_over : C8.Cal l.prog w K mg base 43 "tree_over" (sp_tree_over K C) [] := ⟨f10, _, ["numbers"], [], ok_tree_over F10 T c_over, PySem.W.mg_of X G a10, k10, b10, .nil⟩
  have c_tree_of : C8.Cal l.prog w K mg base 44 "tree_of" (sp_tree_of K C) [] := ⟨f11, _, ["row"], [], ok_tree_of F11 T c_tree_over c_Row_numbers, PySem.W.mg_of X G a11, k11, b11, .nil⟩
  have c_least : C8.Cal l.prog w K mg base 2 "least" (sp_least K C) [] := ⟨f12, _, ["row", "first", "behind"], [], ok_least F12 T c_Row_numbers c_Row_ask_stretch, PySem.W.mg_of X G a12, k12, b12, .nil⟩
  have c__law_cell_at : C8.Cal l.prog w K mg base 1 "_law_cell_at" (sp__law_cell_at K C) [] := ⟨f13, _, ["script", "k"], [], ok__law_cell_at F13 T , PySem.W.mg_of X G a13, k13, b13, .nil⟩
  have c__law_whole : C8.Cal l.prog w K mg base 1 "_law_whole" (sp__law_whole K C) [] := ⟨f14, _, ["found"], [], ok__law_whole F14 T , PySem.W.mg_of X G a14, k14, b14, .nil⟩
  have c__law_draw : C8.Cal l.prog w K mg base 1 "_law_draw" (sp__law_draw K C) [] := ⟨f15, _, ["cell", "k", "bound"], [], ok__law_draw F15 T , PySem.W.mg_of X G a15, k15, b15, .nil⟩
  have c__law_row : C8.Cal l.prog w K mg base 2 "_law_row" (sp__law_row K C) [] := ⟨f16, _, ["script", "at", "most"], [], ok__law_row F16 T c__law_draw c__law_cell_at, PySem.W.mg_of X G a16, k16, b16, .nil⟩
  have c__law_places : C8.Cal l.prog w K mg base 2 "_law_places" (sp__law_places K C) [] := ⟨f17, _, ["found", "due"], [], ok__law_places F17 T c__law_whole, PySem.W.mg_of X G a17, k17, b17, .nil⟩
  have c__law_up : C8.Cal l.prog w K mg base 1 "_law_up" (sp__law_up K C) [] := ⟨f18, _, ["tree", "place"], [], ok__law_up F18 T , PySem.W.mg_of X G a18, k18, b18, .nil⟩
  have c__law_all_right : C8.Cal l.prog w K mg base 45 "_law_all_right" (sp__law_all_right K C) [] := ⟨f19, _, ["script", "row", "kept"], [], ok__law_all_right F19 T c_least c__law_up c__law_places c_tree_of, PySem.W.mg_of X G a19, k19, b19, .nil⟩
  have c__law_deed : C8.Cal l.prog w K mg base 3 "_law_deed" (sp__law_deed K C) [] := ⟨f20, _, ["row", "kept", "cell", "low"], [], ok__law_deed F20 T c_Row_set_at c_Row_put_in c_Row_take_out c_Row_add_to, PySem.W.mg_of X G a20, k20, b20, .nil⟩
  have z := ok_law (P := l.prog) (w := w) (base := base) F21 T c__law_all_right c__law_deed c__law_cell_at c_Row c__law_row
  exact z
end VT
open PySem PySem.W PyProof.Rows
set_option maxRecDepth 100000 in
set_option maxHeartbeats 0 in
theorem PySem.Challenge.cw_valleytree_k06_whole_leasts_by_the_tree_holds : PySem.Challenge.rw_valleytree_k06_whole_leasts_by_the_tree.Holds := by
  w_on; o_law; k_head; (case hw => w_witness2)
  k_fill
  refine L2.walk_of (l := PySem.Challenge.rw_valleytree_k06_whole_leasts_by_the_tree) (n := 63) (k := 46) (x := "script") (CX := fun _ => L2.CX0) (sp := fun w => VT.sp_law _ 0) rfl (by decide) rfl ⟨rfl, by decide, by decide⟩ (fun w h Y => PySem.W.kIn_of Y) ?F (fun _ _ a ns hl _ hS => VT.law_in hS hl) (fun _ _ _ _ _ h => h)
  case F =>
    intro w mg fa h KX G hmg
    refine' VT.all_mk KX G hmg ?aC ?pg ?hd ?po ?sa ?mk ?kc ?nK ?a1 ?i1 ?l1 ?c1 ?k1 ?a2 ?i2 ?l2 ?c2 ?k2 ?a3 ?i3 ?l3 ?c3 ?k3 ?a4 ?i4 ?l4 ?c4 ?k4 ?a5 ?i5 ?l5 ?c5 ?k5 ?a6 ?i6 ?l6 ?c6 ?k6 ?a7 ?i7 ?l7 ?c7 ?k7 ?a8 ?i8 ?l8 ?c8 ?k8 ?a9 ?l9 ?c9 ?k9 ?a10 ?l10 ?c10 ?k10 ?a11 ?l11 ?c11 ?k11 ?a12 ?l12 ?c12 ?k12 ?a13 ?l13 ?c13 ?k13 ?a14 ?l14 ?c14 ?k14 ?a15 ?l15 ?c15 ?k15 ?a16 ?l16 ?c16 ?k16 ?a17 ?l17 ?c17 ?k17 ?a18 ?l18 ?c18 ?k18 ?a19 ?l19 ?c19 ?k19 ?a20 ?l20 ?c20 ?k20 ?a21 ?l21 ?c21 ?k21 ?z_bool ?z_int ?z_isinstance ?z_len ?z_list ?z_min ?z_range ?g_MOST
    (case aC => k_is)
    (case pg => k_is)
    (case hd => k_is)
    (case po => k_is)
    (case sa => k_is)
    (case mk => k_is)
    (case kc => k_is)
    (case nK => k_is)
    (case a1 => k_is)
    (case i1 => k_is)
    (case l1 => k_is)
    (case c1 => k_is)
    (case k1 => k_is)
    (case a2 => k_is)
    (case i2 => k_is)
    (case l2 => k_is)
    (case c2 => k_is)
    (case k2 => k_is)
    (case a3 => k_is)
    (case i3 => k_is)
    (case l3 => k_is)
    (case c3 => k_is)
    (case k3 => k_is)
    (case a4 => k_is)
    (case i4 => k_is)
    (case l4 => k_is)
    (case c4 => k_is)
    (case k4 => k_is)
    (case a5 => k_is)
    (case i5 => k_is)
    (case l5 => k_is)
    (case c5 => k_is)
    (case k5 => k_is)
    (case a6 => k_is)
    (case i6 => k_is)
    (case l6 => k_is)
    (case c6 => k_is)
    (case k6 => k_is)
    (case a7 => k_is)
    (case i7 => k_is)
    (case l7 => k_is)
    (case c7 => k_is)
    (case k7 => k_is)
    (case a8 => k_is)
    (case i8 => k_is)
    (case l8 => k_is)
    (case c8 => k_is)
    (case k8 => k_is)
    (case a9 => k_is)
    (case l9 => k_is)
    (case c9 => k_is)
    (case k9 => k_is)
    (case a10 => k_is)
    (case l10 => k_is)
    (case c10 => k_is)
    (case k10 => k_is)
    (case a11 => k_is)
    (case l11 => k_is)
    (case c11 => k_is)
    (case k11 => k_is)
    (case a12 => k_is)
    (case l12 => k_is)
    (case c12 => k_is)
    (case k12 => k_is)
    (case a13 => k_is)
    (case l13 => k_is)
    (case c13 => k_is)
    (case k13 => k_is)
    (case a14 => k_is)
    (case l14 => k_is)
    (case c14 => k_is)
    (case k14 => k_is)
    (case a15 => k_is)
    (case l15 => k_is)
    (case c15 => k_is)
    (case k15 => k_is)
    (case a16 => k_is)
    (case l16 => k_is)
    (case c16 => k_is)
    (case k16 => k_is)
    (case a17 => k_is)
    (case l17 => k_is)
    (case c17 => k_is)
    (case k17 => k_is)
    (case a18 => k_is)
    (case l18 => k_is)
    (case c18 => k_is)
    (case k18 => k_is)
    (case a19 => k_is)
    (case l19 => k_is)
    (case c19 => k_is)
    (case k19 => k_is)
    (case a20 => k_is)
    (case l20 => k_is)
    (case c20 => k_is)
    (case k20 => k_is)
    (case a21 => k_is)
    (case l21 => k_is)
    (case c21 => k_is)
    (case k21 => k_is)
    (case z_bool => k_is)
    (case z_int => k_is)
    (case z_isinstance => k_is)
    (case z_len => k_is)
    (case z_list => k_is)
    (case z_min => k_is)
    (case z_range => k_is)
    (case g_MOST => k_is)
#print axioms PySem.Challenge.cw_valleytree_k06_whole_leasts_by_the_tree_holds
