import PyProof.Rows.All
import Wide.All
import OpenK.AllK
import Wide.FinOn
import HandS.ForMost
import HandS.Codes
import HandS.More
import HandS.Conv
import HandS.IsInst
import HandS.Wide
import HandS.SortInts
import HandS.RevRange
import HandS.Style
import PyProof.SeqIndex
import KE.DataMinMax
import KE.SortData
import HandS.Rev
import PySem.Challenge.RW_valleytree_k08_all_trees_in_their_order
set_option Elab.async false
set_option linter.all false
set_option maxRecDepth 100000
set_option maxHeartbeats 4000000
/-! ### a layer of small steps over the hand layer -/
namespace VT
open PySem PySem.Spec PyProof.Rows L2
theorem same_new {H : Hp} {p : Addr} (h : H p = none) (o : HO) : Same H (upd H p o) := fun b u q => by
  rw [upd_ne (ne_of_none q h)]
  exact q
theorem same_mut {H H' : Hp} {p : Addr} {o : HO} (e : Same H H') (h : H p = none) : Same H (upd H' p o) := fun b u q => by
  rw [upd_ne (ne_of_none q h)]
  exact e b u q
theorem same_new2 {H H' : Hp} {p : Addr} {o : HO} (e : Same H H') (h : H' p = none) : Same H (upd H' p o) := e.trans (same_new h o)
/-- all but what stands at l is as it was -/
def But (l : Addr) (H H' : Hp) : Prop := ∀ b o, H b = some o → b ≠ l → H' b = some o
theorem But.of {l : Addr} {H H' : Hp} (e : Same H H') : But l H H' := fun b o q _ => e b o q
theorem But.up {l : Addr} {H H' : Hp} {o : HO} (e : But l H H') : But l H (upd H' l o) := fun b u q n => by
  rw [upd_ne n]
  exact e b u q n
theorem But.trans {l : Addr} {H H1 H2 : Hp} (a : But l H H1) (b : But l H1 H2) : But l H H2 := fun c o h n => b c o (a c o h n) n
theorem But.same {l : Addr} {H H' : Hp} (e : But l H H') (h : H l = none) : Same H H' := fun b o q => e b o q (ne_of_none q h)
theorem same_but {l : Addr} {H H1 H2 : Hp} (a : Same H H1) (b : But l H1 H2) (c : H l = none) : Same H H2 := fun p o q => b p o (a p o q) (ne_of_none q c)
theorem But.get {l b : Addr} {o : HO} {H H' : Hp} (e : But l H H') (n : b ≠ l) (h : H b = some o) : H' b = some o := e b o h n
theorem Same.get {b : Addr} {o : HO} {H H' : Hp} (e : Same H H') (h : H b = some o) : H' b = some o := e b o h
theorem up_get {b p : Addr} {o u : HO} {H : Hp} (n : b ≠ p) (h : H b = some o) : upd H p u b = some o := by
  rw [upd_ne n]
  exact h
theorem ne_new {H : Hp} {a b : Addr} {o : HO} (h' : H b = none) (h : H a = some o) : a ≠ b := ne_of_none h h'
theorem ne_new' {H : Hp} {a b : Addr} {o : HO} (h' : H b = none) (h : H a = some o) : b ≠ a := (ne_of_none h h').symm
theorem up_free {H : Hp} {a b : Addr} {o : HO} (n : a ≠ b) (h : H a = none) : upd H b o a = none := by
  rw [upd_ne n]
  exact h
theorem SqL.lst {K : PySem.W.Frag} {H : Hp} {a : Addr} {xs : List V} (h : H a = some (.lst xs)) : SqL K H a xs := .inl (.inl h)
theorem SqT.tup {K : PySem.W.Frag} {H : Hp} {a : Addr} {xs : List V} (h : H a = some (.tup xs)) : SqT K H a xs := .inl (.inl h)
theorem same_seqT {K : PySem.W.Frag} {H H' : Hp} {a : Addr} {xs : List V} (e : Same H H') (h : SqT K H a xs) : SqT K H' a xs := by
  rcases h with (h | ⟨o, h⟩) | h
  · exact .inl (.inl (e _ _ h))
  · exact .inl (.inr ⟨o, e _ _ h⟩)
  · exact .inr h
/-- a readable list is not at a place that is new -/
theorem But.seq {K : PySem.W.Frag} {H H' : Hp} {a l : Addr} {xs : List V} (e : But l H H') (n : a ≠ l) (h : SqL K H a xs) : SqL K H' a xs := by
  rcases h with (h | ⟨o, h⟩) | h
  · exact .inl (.inl (e _ _ h n))
  · exact .inl (.inr ⟨o, e _ _ h n⟩)
  · exact .inr h
theorem sz {n : Nat} (h : n ≤ 1000000) : n ≤ sizeLine := Nat.le_trans h (by decide)
theorem szl {n : Nat} (h : n ≤ 1000000) : n < sizeLine := Nat.lt_of_le_of_lt h (by decide)

/-! ### names for the rules' readings -/
def rLen (K : PySem.W.Frag) : List V → Hp → VK → Prop := fun xs H Q => ∃ p ys, xs = [.ref p] ∧ (SqL K H p ys ∨ SqT K H p ys) ∧ Q (.int ys.length) H
def rListOf (K : PySem.W.Frag) : List V → Hp → VK → Prop := fun xs H Q => ∃ p ys, xs = [.ref p] ∧ (SqL K H p ys ∨ SqT K H p ys) ∧ ∀ l, H l = none → Q (.ref l) (upd H l (.lst ys))
def rMin2 : List V → Hp → VK → Prop := fun xs H Q => ∃ i j, xs = [.int i, .int j] ∧ Q (.int (if j < i then j else i)) H
def rMax2 : List V → Hp → VK → Prop := fun xs H Q => ∃ i j, xs = [.int i, .int j] ∧ Q (.int (if j > i then j else i)) H
def rAbs : List V → Hp → VK → Prop := fun xs H Q => ∃ i, xs = [.int i] ∧ Q (.int (if i < 0 then -i else i)) H
def rIsN : R2 := fun x y H Q => y = .non ∧ Q (.bl (decide (x = .non))) H
def rNotN : R2 := fun x y H Q => y = .non ∧ Q (.bl (!decide (x = .non))) H
def rIns : V → List V → Hp → VK → Prop := fun x vs H Q => ∃ (l : Addr) (xs : List V) (i : Int) (y : V), x = .ref l ∧ vs = [.int i, y] ∧ H l = some (.lst xs) ∧ xs.length < sizeLine ∧ 0 ≤ i ∧ i < 2 ^ 63 ∧ Q .non (upd H l (.lst (xs.take i.toNat ++ [y] ++ xs.drop i.toNat)))
section
variable {X : Cx}
theorem c_len : CallR X (.builtin "len") (rLen X.K) := call_len_seq
theorem c_listOf : CallR X (.type "list") (rListOf X.K) := call_list_of
theorem c_min2 (hc : X.calm = true) : CallR X (.builtin "min") rMin2 := call_min2 hc
theorem c_max2 (hc : X.calm = true) : CallR X (.builtin "max") rMax2 := call_max2 hc
theorem c_abs : CallR X (.builtin "abs") rAbs := call_abs
theorem o_isN : OpR X (compareOp .Is) rIsN := op_isN
theorem o_notN : OpR X (compareOp .IsNot) rNotN := op_notN
/-- the rules at a written part that is told (within a comprehension) -/
theorem ixL {K : PySem.W.Frag} (h : X.K = K) : IxR X (rIxL K) := by
  subst h
  exact ix_list
theorem ixT {K : PySem.W.Frag} (h : X.K = K) : IxR X (rIxT K) := by
  subst h
  exact ix_tup
theorem inS {K : PySem.W.Frag} (h : X.K = K) : OpR X (compareOp .In) (rIn K false) := by
  subst h
  exact op_in_seq
theorem eqD {K : PySem.W.Frag} (h : X.K = K) (hu : X.A.units + 64 < cLine) : OpR X (compareOp .Eq) (rEqD K) := by
  subst h
  exact op_eqD hu
theorem piL {K : PySem.W.Frag} {tg l : Expr} {tl : TE} (h : X.K = K) (hl : PE X l tl) : PI X tg l (iList K tl) := by
  subst h
  exact pi_list hl
/-- xs.index(y, i), xs a list of numbers, y there at i or behind: the first such place -/
def rIndex3 (K : PySem.W.Frag) : V → List V → Hp → VK → Prop := fun x xs H Q => ∃ (a : Addr) (ns : List Int) (y i : Int) (j : Nat), x = .ref a ∧ xs = [.int y, .int i] ∧ SqL K H a (ns.map V.int) ∧ 0 ≤ i ∧ i.toNat ≤ j ∧ ns[j]? = some y ∧ (∀ m : Nat, i.toNat ≤ m → m < j → ns[m]? ≠ some y) ∧ Q (.int (j : Nat)) H
theorem mt_index3 : MtR X "list.index" (rIndex3 X.K) := by
  intro pins s σ H x xs v us Q I rx rxs h
  obtain ⟨a, ns, y, i, j, rfl, rfl, hs, i0, hij, hj, hno, q⟩ := h
  cases rx
  obtain ⟨u1, u2, rfl, r1, r2⟩ := vals2 rxs
  obtain ⟨t1, rfl⟩ := r1
  obtain ⟨t2, rfl⟩ := r2
  obtain ⟨its, rv, ⟨⟨cls, dd, data, sl⟩, n, ho, hc, hdn, hd⟩, hlen⟩ := I.list hs
  simp only at hc hd
  subst hc hd
  have hvl := rv.length
  rw [List.length_map] at hvl
  have hjl : j < ns.length := (List.getElem?_eq_some_iff.mp hj).1
  have hsl := sizeLine_eq
  have hlen' : (ns.map V.int).length ≤ sizeLine := by
    first
      | exact hlen
      | (rw [List.length_map]; rw [hvl]; exact hlen)
  rw [List.length_map, hsl] at hlen'
  have hsf : SeqAt.searchFrom i its.toArray.size = i.toNat := SeqAt.searchFrom_nonneg i0 _
  refine call_meets PySem.F.slot_list_index ⟨_, ho, rfl⟩ PySem.F.entry_list_index (PySem.F.args_list_index_3 _ _ _)
    (SeqAt.list_index3_found a its.toArray n dd sl (.int y t1) (fun m => decide (ns[m]? = some y)) i t2 j (by rw [List.size_toArray]; omega) (by rw [hsf]; exact hij) (by omega) (decide_eq_true hj) ?_) ⟨ho, fun m hm => ?_, ?_⟩
  · intro m hm h1 h2
    rw [hsf] at h1
    exact decide_eq_false (hno m h1 h2)
  · have hml : m < its.length := by simpa using hm
    have hmn : m < ns.length := by omega
    have hm' : (ns.map V.int)[m]? = some (V.int ns[m]) := by rw [List.getElem?_map, List.getElem?_eq_getElem hmn] <;> rfl
    obtain ⟨u2, hu2, ru2⟩ := rv.get hm'
    obtain ⟨hm1, hme⟩ := List.getElem?_eq_some_iff.mp hu2
    obtain ⟨tm, rfl⟩ := ru2
    have e1 : its.toArray[m] = .int ns[m] tm := by simpa using hme
    have hq := mem_eqAt (A := X.A.in1) (s := s) (x := V.int y) (v := .int y t1) ⟨t1, rfl⟩ rfl rv (by rw [List.all_map]; exact List.all_eq_true.mpr fun _ _ => rfl) its.toArray[m] (by simp)
    have e2 : eqU (V.int y) its.toArray[m] = decide (ns[m]? = some y) := by
      rw [e1, List.getElem?_eq_getElem hmn]
      show (ns[m] == y) = _
      by_cases h : ns[m] = y
      · rw [h, beq_self_eq_true, decide_eq_true rfl]
      · rw [beq_eq_false_iff_ne.mpr h, decide_eq_false (fun z => h (Option.some.inj z))]
    rw [e2] at hq
    exact hq
  · exact ⟨.int (j : Nat), H, I.tok _, ⟨_, rfl⟩, q⟩
/-- xs.count(y), flat items -/
def rCountV (K : PySem.W.Frag) : V → List V → Hp → VK → Prop := fun x xs H Q => ∃ (a : Addr) (ys : List V) (y : V), x = .ref a ∧ xs = [y] ∧ SqL K H a ys ∧ flatV y = true ∧ ys.all flatV = true ∧ Q (.int (ys.countP (fun z => eqV z y) : Nat)) H
theorem countP_rel {y : V} : ∀ {ys : List V} {its : List Value}, Vals ys its → ys.all flatV = true → its.countP (eqU y) = ys.countP (fun z => eqV z y)
  | _, _, .nil, _ => rfl
  | x :: ys, u :: us, .cons r t, f => by
    rw [List.all_cons, Bool.and_eq_true] at f
    rw [List.countP_cons, List.countP_cons, countP_rel t f.2, eqU_of r f.1]
theorem mt_countV : MtR X "list.count" (rCountV X.K) := by
  intro pins s σ H x xs v us Q I rx rxs h
  obtain ⟨a, ys, y, rfl, rfl, hs, fy, fys, q⟩ := h
  cases rx
  obtain ⟨u, rfl, ru⟩ := rxs.one
  obtain ⟨its, rv, ⟨⟨cls, dd, data, sl⟩, n, ho, hc, hdn, hd⟩, hlen⟩ := I.list hs
  simp only at hc hd
  subst hc hd
  refine call_meets PySem.F.slot_list_count ⟨_, ho, rfl⟩ PySem.F.entry_list_count (PySem.F.args_list_count_2 _ _)
    (SeqAt.list_countAt a its.toArray n dd sl u (eqU y)) ⟨ho, fun z hz => mem_eqAt ru fy rv fys z (by simpa using hz), ?_⟩
  have ec : its.toArray.toList.countP (eqU y) = ys.countP (fun z => eqV z y) := countP_rel rv fys
  refine ⟨.int (ys.countP (fun z => eqV z y) : Nat), H, I.tok _, ⟨s.toks, ?_⟩, q⟩
  show Value.int ((its.toArray.toList.countP (eqU y) : Nat) : Int) s.toks = Value.int ((ys.countP (fun z => eqV z y) : Nat) : Int) s.toks
  rw [ec]
/-- a op1 b op2 c op3 d -/
def tChain3 (r r' r2 : R2) (ta tb tc td : TE) : TE := fun σ H Q => ta σ H fun x H1 => tb σ H1 fun y H2 => r x y H2 fun z H3 => ∃ k, z = .bl k ∧
  (if k = true then tc σ H3 fun w' H4 => r' y w' H4 fun z' H5 => ∃ k', z' = .bl k' ∧ (if k' = true then td σ H5 fun w2 H6 => r2 w' w2 H6 Q else Q (.bl false) H5) else Q (.bl false) H3)
theorem pt_chain3 {op op' op2 : CmpOp} {r r' r2 : R2} {a b c d : Expr} {ta tb tc td : TE} {pos : Pos} (ho : OpR X (compareOp op) r) (ho' : OpR X (compareOp op') r') (ho2 : OpR X (compareOp op2) r2) (ha : PE X a ta) (hb : PE X b tb) (hc : PE X c tc) (hd : PE X d td)
    (hm : lastMarks [op, op', op2] [b, c, d] = false := by with_unfolding_all rfl) : PT X (.Compare a [op, op', op2] [b, c, d] pos) (tTest (tChain3 r r' r2 ta tb tc td)) := by
  refine ⟨fun pins s σ H Q I h => ?_⟩
  refine isTrue_chain (thn (ha.run pins s σ H _ I h) fun v s1 ⟨x, H1, I1, r1, q1⟩ => test_link (thn (hb.run pins s1 σ H1 _ I1 q1) fun u s2 ⟨y, H2, I2, rr2, q2⟩ =>
    thn (ho pins s2 σ H2 x y v u _ I2 r1 rr2 q2) fun e s3 ⟨z, H3, I3, r3, k, ez, q3⟩ => ?_)) hm
  subst ez
  cases r3
  refine wpAny_truthy_bool ?_
  cases k with
  | false =>
    obtain ⟨k', e', q'⟩ := q3
    cases e'
    exact ite_ff ⟨H3, I3, q'⟩
  | true =>
    refine ite_tt (test_link (thn (hc.run pins s3 σ H3 _ I3 q3) fun w' s4 ⟨z', H4, I4, r4, q4⟩ => thn (ho' pins s4 σ H4 y z' u w' _ I4 rr2 r4 q4) fun d' s5 ⟨z2, H5, I5, r5, k2, e2, q5⟩ => ?_))
    subst e2
    cases r5
    refine wpAny_truthy_bool ?_
    cases k2 with
    | false =>
      obtain ⟨k', e', q'⟩ := q5
      cases e'
      exact ite_ff ⟨H5, I5, q'⟩
    | true =>
      refine ite_tt (test_last (thn (hd.run pins s5 σ H5 _ I5 q5) fun w2 s6 ⟨z3, H6, I6, r6, q6⟩ => thn (ho2 pins s6 σ H6 z' z3 w' w2 _ I6 r4 r6 q6) fun d2 s7 ⟨z4, H7, I7, r7, k3, e3, q7⟩ => ?_))
      subst e3
      cases r7
      exact wpAny_truthy_bool ⟨H7, I7, q7⟩
theorem m_insert : MtR X "list.insert" rIns := mt_insert
end
section
variable {σ : L2.St} {H : Hp} {Q : VK} {D : Ends} {ta tb tc te : TE} {t u : TS} {tt tu : TT} {K : PySem.W.Frag}
variable {nx bk ct : L2.St → Hp → Prop} {rt : VK}
theorem r_seq (h : t ⟨u ⟨nx, rt, bk, ct⟩, rt, bk, ct⟩ σ H) : tSeq t u ⟨nx, rt, bk, ct⟩ σ H := h
theorem r_cut (M : L2.St → Hp → Prop) (h : t ⟨M, rt, bk, ct⟩ σ H) (k : ∀ σ' H', M σ' H' → u ⟨nx, rt, bk, ct⟩ σ' H') : C8.tCut t u ⟨nx, rt, bk, ct⟩ σ H := ⟨M, h, k⟩
theorem r_next (h : nx σ H) : tNext ⟨nx, rt, bk, ct⟩ σ H := h
theorem r_asg {g : TG} (h : te σ H fun x H1 => g x σ H1 nx) : tAsg te g ⟨nx, rt, bk, ct⟩ σ H := h
theorem r_name {i : Nat} {v : V} {N : L2.St → Hp → Prop} (h : N (σ.set i (some v)) H) : gName i v σ H N := h
theorem r_sub {to ti : TE} {g : V → V → V → Hp → (Hp → Prop) → Prop} {v : V} {N : L2.St → Hp → Prop} (h : to σ H fun o H1 => ti σ H1 fun i H2 => g o i v H2 fun H3 => N σ H3) : gSub to ti g v σ H N := h
theorem r_drop (h : te σ H fun _ H1 => nx σ H1) : tDrop te ⟨nx, rt, bk, ct⟩ σ H := h
theorem r_ret (h : te σ H rt) : tRet te ⟨nx, rt, bk, ct⟩ σ H := h
theorem r_retN (h : rt .non H) : tRetN ⟨nx, rt, bk, ct⟩ σ H := h
theorem r_if {tc : TT} (h : tc σ H fun b H1 => if b = true then t ⟨nx, rt, bk, ct⟩ σ H1 else u ⟨nx, rt, bk, ct⟩ σ H1) : tIfS tc t u ⟨nx, rt, bk, ct⟩ σ H := h
theorem r_var {i : Nat} {v : V} (h : σ[i]? = some (some v)) (q : Q v H) : tVar i σ H Q := ⟨v, h, q⟩
theorem r_c {v : V} (q : Q v H) : tC v σ H Q := q
theorem r_op {r : R2} (h : ta σ H fun x H1 => tb σ H1 fun y H2 => r x y H2 Q) : tOp r ta tb σ H Q := h
theorem r_un {r : V → Hp → VK → Prop} (h : ta σ H fun x H1 => r x H1 Q) : tUn r ta σ H Q := h
theorem r_chain {r r' : R2} (h : ta σ H fun x H1 => tb σ H1 fun y H2 => r x y H2 fun z H3 => ∃ k, z = .bl k ∧ (if k = true then tc σ H3 fun w' H4 => r' y w' H4 Q else Q (.bl false) H3)) : tChain r r' ta tb tc σ H Q := h
theorem r_chain3 {r r' r2 : R2} {td : TE} (h : ta σ H fun x H1 => tb σ H1 fun y H2 => r x y H2 fun z H3 => ∃ k, z = .bl k ∧
  (if k = true then tc σ H3 fun w' H4 => r' y w' H4 fun z' H5 => ∃ k', z' = .bl k' ∧ (if k' = true then td σ H5 fun w2 H6 => r2 w' w2 H6 Q else Q (.bl false) H5) else Q (.bl false) H3)) : tChain3 r r' r2 ta tb tc td σ H Q := h
theorem r_sFld {f : Str} (h : te σ H fun y H1 => ta σ H1 fun x H2 => ∃ a C dx fs, x = .ref a ∧ H2 a = some (.ins C dx fs) ∧ Cls K C ∧ NoAttr K C f ∧ fs.length < 1000 ∧ nx σ (upd H2 a (.ins C dx (putF f y fs)))) : sFld K ta te f ⟨nx, rt, bk, ct⟩ σ H := h
theorem r_test {N : Bool → Hp → Prop} (h : te σ H fun x H' => ∃ k, x = .bl k ∧ N k H') : tTest te σ H N := h
theorem r_B {N : Bool → Hp → Prop} (h : te σ H fun x H' => ∃ k, x = .bl k ∧ N k H') : tB te σ H N := h
theorem r_bl {b : Bool} {N : Bool → Prop} (h : N b) : ∃ k, V.bl b = V.bl k ∧ N k := ⟨b, rfl, h⟩
theorem r_not {N : Bool → Hp → Prop} (h : tt σ H fun c H1 => N (!c) H1) : tNot tt σ H N := h
theorem r_and {N : Bool → Hp → Prop} (h : tt σ H fun c H1 => if c = true then tu σ H1 N else N false H1) : tAnd tt tu σ H N := h
theorem r_or {N : Bool → Hp → Prop} (h : tt σ H fun c H1 => if c = true then N true H1 else tu σ H1 N) : tOr tt tu σ H N := h
theorem r_andV (h : ta σ H fun x H1 => ∃ c, x = .bl c ∧ if c = true then tb σ H1 Q else Q (.bl false) H1) : tAndV ta tb σ H Q := h
theorem r_orV (h : ta σ H fun x H1 => ∃ c, x = .bl c ∧ if c = true then Q (.bl true) H1 else tb σ H1 Q) : tOrV ta tb σ H Q := h
theorem r_notV (h : ta σ H fun x H1 => ∃ c, x = .bl c ∧ Q (.bl (!c)) H1) : tNotV ta σ H Q := h
theorem r_ifE {c : TT} (h : c σ H fun b H1 => if b = true then ta σ H1 Q else tb σ H1 Q) : tIf c ta tb σ H Q := h
theorem r_cons {tr : TA} {N : List V → Hp → Prop} (h : ta σ H fun x H1 => tr σ H1 fun xs H2 => N (x :: xs) H2) : tCons ta tr σ H N := h
theorem r_nil {N : List V → Hp → Prop} (h : N [] H) : tNil σ H N := h
theorem r_lst {tr : TA} (h : tr σ H fun xs H1 => xs.length ≤ sizeLine ∧ ∀ p, H1 p = none → Q (.ref p) (upd H1 p (.lst xs))) : tLst tr σ H Q := h
theorem r_tup {tr : TA} (h : tr σ H fun xs H1 => xs.length ≤ sizeLine ∧ ∀ p, H1 p = none → Q (.ref p) (upd H1 p (.tup xs))) : tTup tr σ H Q := h
theorem r_CB {tr : TA} {r : List V → Hp → VK → Prop} (h : tr σ H fun vs H1 => r vs H1 Q) : tCB r tr σ H Q := h
theorem r_call {tr : TA} {sp : Sp} {dvs : List V} {E : XK} (h : tr σ H fun vs H1 => sp (vs ++ dvs) H1 Q E) : tCall sp dvs E tr σ H Q := h
theorem r_sl {r : V → Option Int → Option Int → Hp → VK → Prop} {tl th : TO} (h : te σ H fun x H1 => tl σ H1 fun lo H2 => th σ H2 fun hi H3 => r x lo hi H3 Q) : tSl r te tl th σ H Q := h
theorem r_part {N : Option Int → Hp → Prop} (h : te σ H fun x H1 => ∃ i, x = .int i ∧ N (some i) H1) : tPart te σ H N := h
theorem r_int {i : Int} {N : Int → Prop} (h : N i) : ∃ k, V.int i = V.int k ∧ N k := ⟨i, rfl, h⟩
theorem r_noPart {N : Option Int → Hp → Prop} (h : N none H) : tNoPart σ H N := h
theorem r_bm {T : String} {r : V → List V → Hp → VK → Prop} {tr : TA} (h : te σ H fun x H1 => tyV K T x H1 ∧ tr σ H1 fun xs H2 => r x xs H2 Q) : tBM K T r te tr σ H Q := h
theorem r_bm0 {T : String} {r : V → List V → Hp → VK → Prop} (h : te σ H fun x H1 => tyV K T x H1 ∧ r x [] H1 Q) : tBM0 K T r te σ H Q := h
theorem r_fld {f : Str} (h : ta σ H fun x H1 => ∃ a C dx fs v, x = .ref a ∧ H1 a = some (.ins C dx fs) ∧ Cls K C ∧ NoAttr K C f ∧ fs.lookup f = some v ∧ Q v H1) : tFld K ta f σ H Q := h
theorem r_I0 {g : Int → Int → V} {i j : Int} (h : Q (g i j) H) : rI0 g (.int i) (.int j) H Q := ⟨i, j, rfl, rfl, h⟩
theorem r_I {C : Int → Int → Prop} {g : Int → Int → V} {i j : Int} (hc : C i j) (h : Q (g i j) H) : rI C g (.int i) (.int j) H Q := ⟨i, j, rfl, rfl, hc, h⟩
theorem r_U {g : Int → V} {i : Int} (h : Q (g i) H) : rU g (.int i) H Q := ⟨i, rfl, h⟩
/-- a Row: its attributes, where it stands -/
def rowF (l : Addr) : List (Str × V) := [("kept", .ref l)]
def RowOb (C : Addr) (H : Hp) (p l : Addr) : Prop := ∃ dx, H p = some (.ins C dx (rowF l))
theorem r_meth {C : Addr} {m : Str} {sp : Sp} {dvs : List V} {E : XK} {tr : TA} (h : ta σ H fun x H1 => ∃ a dx fs, x = .ref a ∧ H1 a = some (.ins C dx fs) ∧ fs.lookup m = none ∧ tr σ H1 fun vs H2 => sp (x :: (vs ++ dvs)) H2 Q E) : tMeth C m sp dvs E ta tr σ H Q := h
theorem r_make {C : Addr} {sp : Sp} {dvs : List V} {E : XK} {tr : TA} (h : tr σ H fun vs H1 => ∀ x dx, H1 x = none → H1 dx = none → dx ≠ x → sp (.ref x :: (vs ++ dvs)) (upd (upd H1 dx (.own x)) x (.ins C dx [])) (fun v H2 => v = .non ∧ Q (.ref x) H2) E) : tMake C sp dvs E tr σ H Q := h
theorem rowF_kept (l : Addr) : (rowF l).lookup ("kept" : Str) = some (.ref l) := by
  unfold rowF
  rw [List.lookup_cons]
  simp
theorem rowF_no (l : Addr) {m : Str} (h : ¬ m = "kept") : (rowF l).lookup m = none := by
  unfold rowF
  rw [List.lookup_cons]
  have e : (m == ("kept" : Str)) = false := by simpa using h
  rw [e]
  rfl
theorem r_fldR {p l C dx : Addr} (h : H p = some (.ins C dx (rowF l))) (c : Cls K C) (n : NoAttr K C "kept") {N : V → Prop} (q : N (.ref l)) : ∃ a C dx fs v, V.ref p = .ref a ∧ H a = some (.ins C dx fs) ∧ Cls K C ∧ NoAttr K C "kept" ∧ fs.lookup ("kept" : Str) = some v ∧ N v := ⟨p, C, dx, rowF l, _, rfl, h, c, n, rowF_kept l, q⟩
theorem r_methR {p l C dx : Addr} {m : Str} {N : Prop} (h : H p = some (.ins C dx (rowF l))) (hm : ¬ m = "kept") (q : N) : ∃ a dx fs, V.ref p = .ref a ∧ H a = some (.ins C dx fs) ∧ fs.lookup m = none ∧ N := ⟨p, dx, rowF l, rfl, h, rowF_no l hm, q⟩
theorem r_new {n : Nat} {N : Addr → Prop} (z : n ≤ 1000000) (q : ∀ p, H p = none → N p) : n ≤ sizeLine ∧ ∀ p, H p = none → N p := ⟨sz z, q⟩
theorem dec_int {i j : Int} : decide (V.int i = V.int j) = decide (i = j) := by
  by_cases h : i = j
  · rw [h, decide_eq_true rfl, decide_eq_true rfl]
  · rw [decide_eq_false h, decide_eq_false (fun e => h (V.int.inj e))]
theorem dec_bl {i j : Bool} : decide (V.bl i = V.bl j) = decide (i = j) := by
  by_cases h : i = j
  · rw [h, decide_eq_true rfl, decide_eq_true rfl]
  · rw [decide_eq_false h, decide_eq_false (fun e => h (V.bl.inj e))]
theorem r_eqI {i j : Int} (h : Q (.bl (decide (i = j))) H) : rEq (.int i) (.int j) H Q := ⟨rfl, by rw [dec_int]; exact h⟩
theorem r_neI {i j : Int} (h : Q (.bl (!decide (i = j))) H) : rNe (.int i) (.int j) H Q := ⟨rfl, by rw [dec_int]; exact h⟩
theorem r_eqB {i j : Bool} (h : Q (.bl (decide (i = j))) H) : rEq (.bl i) (.bl j) H Q := ⟨rfl, by rw [dec_bl]; exact h⟩
theorem r_neB {i j : Bool} (h : Q (.bl (!decide (i = j))) H) : rNe (.bl i) (.bl j) H Q := ⟨rfl, by rw [dec_bl]; exact h⟩
theorem r_isN {x : V} (h : Q (.bl (decide (x = .non))) H) : rIsN x .non H Q := ⟨rfl, h⟩
theorem r_notN {x : V} (h : Q (.bl (!decide (x = .non))) H) : rNotN x .non H Q := ⟨rfl, h⟩
/-- branches -/
theorem br {b : Bool} {A B : Prop} (h1 : b = true → A) (h2 : b = false → B) : if b = true then A else B := by
  cases b with
  | true => exact iteT (h1 rfl)
  | false => exact iteF (h2 rfl)
theorem brD {p : Prop} [Decidable p] {A B : Prop} (h1 : p → A) (h2 : ¬ p → B) : if decide p = true then A else B := by
  by_cases h : p
  · rw [if_pos (decide_eq_true h)]
    exact h1 h
  · rw [if_neg (by rw [decide_eq_false h]; exact Bool.false_ne_true)]
    exact h2 h
theorem brN {p : Prop} [Decidable p] {A B : Prop} (h1 : ¬ p → A) (h2 : p → B) : if (!decide p) = true then A else B := by
  by_cases h : p
  · rw [if_neg (by rw [decide_eq_true h]; exact Bool.false_ne_true)]
    exact h2 h
  · rw [if_pos (by rw [decide_eq_false h]; rfl)]
    exact h1 h
theorem brT {p : Prop} [Decidable p] {A B : Prop} (h : p) (h1 : A) : if decide p = true then A else B := brD (fun _ => h1) (fun n => absurd h n)
theorem brF {p : Prop} [Decidable p] {A B : Prop} (h : ¬ p) (h1 : B) : if decide p = true then A else B := brD (fun n => absurd n h) (fun _ => h1)
theorem brNT {p : Prop} [Decidable p] {A B : Prop} (h : ¬ p) (h1 : A) : if (!decide p) = true then A else B := brN (fun _ => h1) (fun n => absurd n h)
theorem brNF {p : Prop} [Decidable p] {A B : Prop} (h : p) (h1 : B) : if (!decide p) = true then A else B := brN (fun n => absurd h n) (fun _ => h1)
/-- and, or of two tests that leave the heap: one answer -/
theorem r_andD {p q : Bool} {N : Bool → Hp → Prop} (h1 : ∀ Z : Bool → Hp → Prop, Z p H → tt σ H Z) (h2 : ∀ Z : Bool → Hp → Prop, Z q H → tu σ H Z) (h : N (p && q) H) : tAnd tt tu σ H N := by
  refine h1 _ ?_
  cases p with
  | true => exact iteT (h2 _ h)
  | false => exact iteF h
theorem r_orD {p q : Bool} {N : Bool → Hp → Prop} (h1 : ∀ Z : Bool → Hp → Prop, Z p H → tt σ H Z) (h2 : ∀ Z : Bool → Hp → Prop, Z q H → tu σ H Z) (h : N (p || q) H) : tOr tt tu σ H N := by
  refine h1 _ ?_
  cases p with
  | true => exact iteT h
  | false => exact iteF (h2 _ h)
theorem brA {p q : Prop} [Decidable p] [Decidable q] {A B : Prop} (h1 : p → q → A) (h2 : ¬ (p ∧ q) → B) : if (decide p && decide q) = true then A else B := by
  by_cases hp : p
  · by_cases hq : q
    · rw [decide_eq_true hp, decide_eq_true hq]
      exact iteT (h1 hp hq)
    · rw [decide_eq_false hq, Bool.and_false]
      exact iteF (h2 fun z => hq z.2)
  · rw [decide_eq_false hp, Bool.false_and]
    exact iteF (h2 fun z => hp z.1)
theorem brO {p q : Prop} [Decidable p] [Decidable q] {A B : Prop} (h1 : p ∨ q → A) (h2 : ¬ p → ¬ q → B) : if (decide p || decide q) = true then A else B := by
  by_cases hp : p
  · rw [decide_eq_true hp, Bool.true_or]
    exact iteT (h1 (.inl hp))
  · by_cases hq : q
    · rw [decide_eq_true hq, Bool.or_true]
      exact iteT (h1 (.inr hq))
    · rw [decide_eq_false hp, decide_eq_false hq]
      exact iteF (h2 hp hq)
theorem r_len {p : Addr} {ys : List V} (h : SqL K H p ys) (q : Q (.int (ys.length : Int)) H) : rLen K [.ref p] H Q := ⟨p, ys, rfl, .inl h, q⟩
theorem r_lenI {p : Addr} {ns : List Int} (h : SqL K H p (ns.map V.int)) (q : Q (.int (ns.length : Int)) H) : rLen K [.ref p] H Q := ⟨p, _, rfl, .inl h, by rw [List.length_map]; exact q⟩
theorem r_lenT {p : Addr} {ys : List V} (h : SqT K H p ys) (q : Q (.int (ys.length : Int)) H) : rLen K [.ref p] H Q := ⟨p, ys, rfl, .inr h, q⟩
theorem r_listOf {p : Addr} {ys : List V} (h : SqL K H p ys) (q : ∀ l, H l = none → Q (.ref l) (upd H l (.lst ys))) : rListOf K [.ref p] H Q := ⟨p, ys, rfl, .inl h, q⟩
theorem r_index3 {a : Addr} {ns : List Int} {y i : Int} {j : Nat} (h : SqL K H a (ns.map V.int)) (h0 : 0 ≤ i) (h1 : i.toNat ≤ j) (hj : ns[j]? = some y) (hn : ∀ m : Nat, i.toNat ≤ m → m < j → ns[m]? ≠ some y) (q : Q (.int (j : Nat)) H) : rIndex3 K (.ref a) [.int y, .int i] H Q := ⟨a, ns, y, i, j, rfl, rfl, h, h0, h1, hj, hn, q⟩
theorem r_min {a : Addr} {ns : List Int} (h : SqL K H a (ns.map V.int)) (hn : 0 < ns.length) (q : ∀ m, m ∈ ns → (∀ x, x ∈ ns → m ≤ x) → Q (.int m) H) : rMin K [.ref a] H Q := ⟨a, ns, rfl, h, hn, q⟩
theorem r_max {a : Addr} {ns : List Int} (h : SqL K H a (ns.map V.int)) (hn : 0 < ns.length) (q : ∀ m, m ∈ ns → (∀ x, x ∈ ns → x ≤ m) → Q (.int m) H) : rMax K [.ref a] H Q := ⟨a, ns, rfl, h, hn, q⟩
theorem r_sum {a : Addr} {ns : List Int} (h : SqL K H a (ns.map V.int)) (q : Q (.int ns.sum) H) : rSum K [.ref a] H Q := ⟨a, ns, rfl, h, q⟩
theorem r_min2 {i j : Int} (q : Q (.int (if j < i then j else i)) H) : rMin2 [.int i, .int j] H Q := ⟨i, j, rfl, q⟩
theorem r_max2 {i j : Int} (q : Q (.int (if j > i then j else i)) H) : rMax2 [.int i, .int j] H Q := ⟨i, j, rfl, q⟩
theorem r_abs {i : Int} (q : Q (.int (if i < 0 then -i else i)) H) : rAbs [.int i] H Q := ⟨i, rfl, q⟩
theorem r_ixL {p : Addr} {xs : List V} {i : Int} {v : V} (h : SqL K H p xs) (ha : atI xs i = some v) (q : Q v H) : rIxL K (.ref p) (.int i) H Q := ⟨p, xs, i, v, rfl, rfl, h, ha, q⟩
theorem r_ixT {p : Addr} {xs : List V} {i : Int} {v : V} (h : SqT K H p xs) (ha : atI xs i = some v) (q : Q v H) : rIxT K (.ref p) (.int i) H Q := ⟨p, xs, i, v, rfl, rfl, h, ha, q⟩
theorem r_slL {p : Addr} {xs : List V} {lo hi : Option Int} (h : SqL K H p xs) (q : ∀ l, H l = none → Q (.ref l) (upd H l (.lst (cutV xs lo hi)))) : rSlL K (.ref p) lo hi H Q := ⟨p, xs, rfl, h, q⟩
theorem r_cat {l b : Addr} {xs zs : List V} (h : H l = some (.lst xs)) (h' : H b = some (.lst zs)) (z : xs.length + zs.length ≤ 1000000) (q : ∀ p, H p = none → Q (.ref p) (upd H p (.lst (xs ++ zs)))) : rCat (.ref l) (.ref b) H Q := ⟨l, b, xs, zs, rfl, rfl, h, h', sz z, q⟩
theorem r_app {l : Addr} {xs : List V} {v : V} (h : H l = some (.lst xs)) (z : xs.length ≤ 1000000) (q : Q .non (upd H l (.lst (xs ++ [v])))) : rAppend (.ref l) [v] H Q := ⟨l, xs, v, rfl, rfl, h, szl z, q⟩
theorem r_tyL {p : Addr} {xs : List V} {N : Prop} (h : SqL K H p xs) (q : N) : tyV K "list" (.ref p) H ∧ N := ⟨.inl ⟨rfl, xs, h⟩, q⟩
theorem r_ins {l : Addr} {xs : List V} {i : Int} {y : V} (h : H l = some (.lst xs)) (z : xs.length ≤ 1000000) (i0 : 0 ≤ i) (i1 : i ≤ 1000000) (q : Q .non (upd H l (.lst (xs.take i.toNat ++ [y] ++ xs.drop i.toNat)))) : rIns (.ref l) [.int i, y] H Q := ⟨l, xs, i, y, rfl, rfl, h, szl z, i0, Int.lt_of_le_of_lt i1 (by decide), q⟩
theorem map_erase (ns : List Int) (k : Nat) : (ns.map V.int).eraseIdx k = (ns.eraseIdx k).map V.int := by
  induction ns generalizing k with
  | nil => rfl
  | cons a r ih =>
    cases k with
    | zero => rfl
    | succ k =>
      show V.int a :: (r.map V.int).eraseIdx k = V.int a :: (r.eraseIdx k).map V.int
      rw [ih]
theorem seq_ix {n : Nat} {i : Int} (h0 : 0 ≤ i) (h1 : i < (n : Int)) : seqIndex? i n = some i.toNat := by
  have e : ixN n i = some i.toNat := by
    unfold ixN
    rw [if_pos h0, if_pos h1]
  exact (ixN_seq e).1
theorem snoc_int (ns : List Int) (x : Int) : ns.map V.int ++ [V.int x] = (ns ++ [x]).map V.int := by
  rw [List.map_append]
  rfl
theorem r_popAt {l : Addr} {ns : List Int} {i z : Int} (h : H l = some (.lst (ns.map V.int))) (h0 : 0 ≤ i) (h1 : i < 1000000) (hz : ns[i.toNat]? = some z) (q : Q (.int z) (upd H l (.lst ((ns.eraseIdx i.toNat).map V.int)))) : rPopAt (.ref l) [.int i] H Q := by
  have hi : i.toNat < ns.length := (List.getElem?_eq_some_iff.mp hz).1
  refine ⟨l, ns.map V.int, i, i.toNat, .int z, rfl, rfl, h, by omega, by omega, ?_, ?_, ?_⟩
  · rw [List.length_map]
    exact seq_ix h0 (by omega)
  · rw [List.getElem?_map, hz] <;> rfl
  · rw [map_erase]
    exact q
theorem sIx_int {n d : Nat} {i : Int} (h0 : 0 ≤ i) (h1 : i ≤ (n : Int)) : HT.sIx n d (some i) = i.toNat := by
  have e : i = ((i.toNat : Nat) : Int) := by omega
  rw [e, HT.sIx_nat, Int.toNat_natCast]
  omega
theorem cut_take {xs : List V} {i : Int} (h0 : 0 ≤ i) (h1 : i ≤ (xs.length : Int)) : cutV xs none (some i) = xs.take i.toNat := by
  unfold cutV
  rw [sIx_int h0 h1, HT.sIx_none, List.drop_zero, Nat.sub_zero]
theorem cut_drop {xs : List V} {i : Int} (h0 : 0 ≤ i) (h1 : i ≤ (xs.length : Int)) : cutV xs (some i) none = xs.drop i.toNat := by
  unfold cutV
  rw [sIx_int h0 h1, HT.sIx_none]
  exact List.take_of_length_le (by rw [List.length_drop]; exact Nat.le_refl _)
theorem cut_mid {xs : List V} {i j : Int} (h0 : 0 ≤ i) (h1 : i ≤ (xs.length : Int)) (h2 : 0 ≤ j) (h3 : j ≤ (xs.length : Int)) : cutV xs (some i) (some j) = (xs.drop i.toNat).take (j.toNat - i.toNat) := by
  unfold cutV
  rw [sIx_int h0 h1, sIx_int h2 h3]
theorem cut_takeI {ns : List Int} {i : Int} (h0 : 0 ≤ i) (h1 : i ≤ (ns.length : Int)) : cutV (ns.map V.int) none (some i) = (ns.take i.toNat).map V.int := by
  rw [cut_take h0 (by rw [List.length_map]; exact h1), List.map_take]
theorem cut_dropI {ns : List Int} {i : Int} (h0 : 0 ≤ i) (h1 : i ≤ (ns.length : Int)) : cutV (ns.map V.int) (some i) none = (ns.drop i.toNat).map V.int := by
  rw [cut_drop h0 (by rw [List.length_map]; exact h1), List.map_drop]
theorem cut_midI {ns : List Int} {i j : Int} (h0 : 0 ≤ i) (h1 : i ≤ (ns.length : Int)) (h2 : 0 ≤ j) (h3 : j ≤ (ns.length : Int)) : cutV (ns.map V.int) (some i) (some j) = ((ns.drop i.toNat).take (j.toNat - i.toNat)).map V.int := by
  rw [cut_mid h0 (by rw [List.length_map]; exact h1) h2 (by rw [List.length_map]; exact h3), List.map_take, List.map_drop]
theorem cut_int (ns : List Int) (lo hi : Option Int) : ∃ ms : List Int, cutV (ns.map V.int) lo hi = ms.map V.int ∧ ms.length ≤ ns.length := by
  refine ⟨(ns.drop (HT.sIx ns.length 0 lo)).take (HT.sIx ns.length ns.length hi - HT.sIx ns.length 0 lo), ?_, ?_⟩
  · unfold cutV
    rw [List.length_map, List.map_take, List.map_drop]
  · rw [List.length_take, List.length_drop]
    omega
theorem same_made {H H' : Hp} {x dx C : Addr} (nx : H x = none) (nd : H dx = none) (k : But x (upd (upd H dx (.own x)) x (.ins C dx [])) H') : Same H H' := fun b o e =>
  k b o (by rw [upd_ne (ne_of_none e nx), upd_ne (ne_of_none e nd)]; exact e) (ne_of_none e nx)
theorem r_at {xs : List V} {j : Nat} {v : V} {i : Int} (e : i = (j : Int)) (h : xs[j]? = some v) : atI xs i = some v := by
  rw [e]
  exact atI_nat h
/-- comparison of data -/
def pdV : V → PyData
  | .bl b => .bool b
  | .int i => .int i
  | _ => .none
def okV : V → Bool
  | .non => true
  | .int _ => true
  | _ => false
theorem okV_eqv : ∀ {x y : V}, okV x = true → okV y = true → PyData.eqv (pdV x) (pdV y) = decide (x = y)
  | .non, .non, _, _ => by rw [decide_eq_true rfl] <;> rfl
  | .non, .int j, _, _ => by rw [decide_eq_false (by intro h; cases h)] <;> rfl
  | .int i, .non, _, _ => by rw [decide_eq_false (by intro h; cases h)] <;> rfl
  | .int i, .int j, _, _ => by rw [dec_int] <;> rfl
theorem eqv_flat : ∀ {xs ys : List V}, xs.all okV = true → ys.all okV = true → PyData.eqvAll (xs.map pdV) (ys.map pdV) = decide (xs = ys)
  | [], [], _, _ => by rw [decide_eq_true rfl] <;> rfl
  | [], y :: ys, _, _ => by rw [decide_eq_false (by intro h; cases h)] <;> rfl
  | x :: xs, [], _, _ => by rw [decide_eq_false (by intro h; cases h)] <;> rfl
  | x :: xs, y :: ys, h1, h2 => by
    rw [List.all_cons, Bool.and_eq_true] at h1 h2
    have ih := eqv_flat (xs := xs) (ys := ys) h1.2 h2.2
    have e1 := okV_eqv h1.1 h2.1
    show (PyData.eqv (pdV x) (pdV y) && PyData.eqvAll (xs.map pdV) (ys.map pdV)) = _
    rw [ih, e1]
    by_cases a : x = y
    · by_cases b : xs = ys
      · rw [a, b]
        simp
      · rw [decide_eq_false b, Bool.and_false, decide_eq_false (by intro h; cases h; exact b rfl)]
    · rw [decide_eq_false a, Bool.false_and, decide_eq_false (by intro h; cases h; exact a rfl)]
theorem dpAll_flat {H : Hp} : ∀ {xs : List V}, xs.all okV = true → DpAll K H xs (xs.map pdV)
  | [], _ => .nil
  | .non :: xs, h => .cons .non (dpAll_flat (by rw [List.all_cons, Bool.and_eq_true] at h; exact h.2))
  | .int i :: xs, h => .cons (.int i) (dpAll_flat (by rw [List.all_cons, Bool.and_eq_true] at h; exact h.2))
theorem lay_flat : ∀ {xs : List V}, xs.all okV = true → PyData.canLayAll0 (xs.map pdV) = true ∧ PyData.depthAll (xs.map pdV) = 0
  | [], _ => ⟨rfl, rfl⟩
  | .non :: xs, h => by
    have ih := lay_flat (xs := xs) (by rw [List.all_cons, Bool.and_eq_true] at h; exact h.2)
    exact ⟨by show (true && PyData.canLayAll0 (xs.map pdV)) = true; rw [ih.1] <;> rfl, by show max 0 (PyData.depthAll (xs.map pdV)) = 0; rw [ih.2] <;> rfl⟩
  | .int i :: xs, h => by
    have ih := lay_flat (xs := xs) (by rw [List.all_cons, Bool.and_eq_true] at h; exact h.2)
    exact ⟨by show (true && PyData.canLayAll0 (xs.map pdV)) = true; rw [ih.1] <;> rfl, by show max 0 (PyData.depthAll (xs.map pdV)) = 0; rw [ih.2] <;> rfl⟩
theorem shaped_flat {xs : List V} (h : xs.all okV = true) : SeqAt.shaped (.list (xs.map pdV)) = true := by
  obtain ⟨a, b⟩ := lay_flat h
  show (PyData.canLayAll0 (xs.map pdV) && decide (PyData.depthAll (xs.map pdV) + 1 ≤ 64)) = true
  rw [a, b]
  rfl
theorem shaped_flatT {xs : List V} (h : xs.all okV = true) : SeqAt.shaped (.tuple (xs.map pdV)) = true := by
  obtain ⟨a, b⟩ := lay_flat h
  show (PyData.canLayAll0 (xs.map pdV) && decide (PyData.depthAll (xs.map pdV) + 1 ≤ 64)) = true
  rw [a, b]
  rfl
theorem r_eqL {a b : Addr} {xs ys : List V} (h : SqL K H a xs) (h' : SqL K H b ys) (o : xs.all okV = true) (o' : ys.all okV = true) (q : Q (.bl (decide (xs = ys))) H) : rEqD K (.ref a) (.ref b) H Q :=
  ⟨_, _, .lst h (dpAll_flat o), .lst h' (dpAll_flat o'), shaped_flat o, shaped_flat o', by
    show Q (.bl (PyData.eqvAll (xs.map pdV) (ys.map pdV))) H
    rw [eqv_flat o o']
    exact q⟩
theorem r_neL {a b : Addr} {xs ys : List V} (h : SqL K H a xs) (h' : SqL K H b ys) (o : xs.all okV = true) (o' : ys.all okV = true) (q : Q (.bl (!decide (xs = ys))) H) : rNeD K (.ref a) (.ref b) H Q :=
  ⟨_, _, .lst h (dpAll_flat o), .lst h' (dpAll_flat o'), shaped_flat o, shaped_flat o', by
    show Q (.bl (!PyData.eqvAll (xs.map pdV) (ys.map pdV))) H
    rw [eqv_flat o o']
    exact q⟩
theorem r_eqT {a b : Addr} {xs ys : List V} (h : SqT K H a xs) (h' : SqT K H b ys) (o : xs.all okV = true) (o' : ys.all okV = true) (q : Q (.bl (decide (xs = ys))) H) : rEqD K (.ref a) (.ref b) H Q :=
  ⟨_, _, .tup h (dpAll_flat o), .tup h' (dpAll_flat o'), shaped_flatT o, shaped_flatT o', by
    show Q (.bl (PyData.eqvAll (xs.map pdV) (ys.map pdV))) H
    rw [eqv_flat o o']
    exact q⟩
theorem r_neT {a b : Addr} {xs ys : List V} (h : SqT K H a xs) (h' : SqT K H b ys) (o : xs.all okV = true) (o' : ys.all okV = true) (q : Q (.bl (!decide (xs = ys))) H) : rNeD K (.ref a) (.ref b) H Q :=
  ⟨_, _, .tup h (dpAll_flat o), .tup h' (dpAll_flat o'), shaped_flatT o, shaped_flatT o', by
    show Q (.bl (!PyData.eqvAll (xs.map pdV) (ys.map pdV))) H
    rw [eqv_flat o o']
    exact q⟩
theorem all_int (ns : List Int) : (ns.map V.int).all okV = true := by
  rw [List.all_map]
  exact List.all_eq_true.mpr fun _ _ => rfl
theorem map_int_inj {a b : List Int} (h : a.map V.int = b.map V.int) : a = b := by
  have := congrArg (List.map fun v => match v with | V.int i => i | _ => 0) h
  rw [List.map_map, List.map_map] at this
  have e : ((fun v => match v with | V.int i => i | _ => 0) ∘ V.int) = (id : Int → Int) := by funext x; rfl
  rw [e, List.map_id, List.map_id] at this
  exact this
theorem dec_ints {a b : List Int} : decide (a.map V.int = b.map V.int) = decide (a = b) := by
  by_cases h : a = b
  · rw [h, decide_eq_true rfl, decide_eq_true rfl]
  · rw [decide_eq_false h, decide_eq_false (fun e => h (map_int_inj e))]
/-- isinstance -/
theorem r_isiT {x : V} {a b : String} (ty : TyX K H x (.type a)) (h : kitB a b = some true) (q : Q (.bl true) H) : rIsi K [x, .ty b] H Q := ⟨x, .ty b, .type a, .type b, true, rfl, .ty b, ty, kit_ty h, q⟩
theorem r_isiF {x : V} {a b : String} (ty : TyX K H x (.type a)) (h : kitB a b = some false) (q : Q (.bl false) H) : rIsi K [x, .ty b] H Q := ⟨x, .ty b, .type a, .type b, false, rfl, .ty b, ty, kit_ty h, q⟩
theorem tyX_sq {a : Addr} {xs : List V} (h : SqL K H a xs) : TyX K H (.ref a) (.type "list") := by
  rcases h with (h | ⟨o, h⟩) | ⟨o, its, n, h1, h2, _⟩
  · exact .base (.lst h)
  · exact .base (.frz h)
  · exact .kList h1 h2

/-! ### loops: the reading waits at one of these, its arguments seen -/
def LoopR (lo : Int) (n j : Nat) (tb : TS) : TS := fun D σ H => ∃ W : Nat → Nat → L2.St → Hp → Prop, (∃ m, W 0 m σ H) ∧ ∀ i m σ H, W i m σ H →
  ((Itr lo n).stop i H ∧ D.nx σ H) ∨ ((Itr lo n).go i H ∧ ∃ N : L2.St → Hp → Prop, (∀ σ' H', N σ' H' → ∃ m', m' < m ∧ W (i + 1) m' σ' H') ∧ ∀ x H', (Itr lo n).yld i H x H' → gName j x σ H' fun σ2 H2 => tb ⟨N, D.rt, D.nx, N⟩ σ2 H2)
def LoopL (K : PySem.W.Frag) (a : Addr) (j : Nat) (tb : TS) : TS := fun D σ H => ∃ W : Nat → Nat → L2.St → Hp → Prop, (∃ m, W 0 m σ H) ∧ ∀ i m σ H, W i m σ H →
  ((Itl K a).stop i H ∧ D.nx σ H) ∨ ((Itl K a).go i H ∧ ∃ N : L2.St → Hp → Prop, (∀ σ' H', N σ' H' → ∃ m', m' < m ∧ W (i + 1) m' σ' H') ∧ ∀ x H', (Itl K a).yld i H x H' → gName j x σ H' fun σ2 H2 => tb ⟨N, D.rt, D.nx, N⟩ σ2 H2)
def LoopC (lo c : Int) (n j : Nat) (tb : TS) : TS := fun D σ H => ∃ W : Nat → Nat → L2.St → Hp → Prop, (∃ m, W 0 m σ H) ∧ ∀ i m σ H, W i m σ H →
  ((Itc lo c n).stop i H ∧ D.nx σ H) ∨ ((Itc lo c n).go i H ∧ ∃ N : L2.St → Hp → Prop, (∀ σ' H', N σ' H' → ∃ m', m' < m ∧ W (i + 1) m' σ' H') ∧ ∀ x H', (Itc lo c n).yld i H x H' → gName j x σ H' fun σ2 H2 => tb ⟨N, D.rt, D.nx, N⟩ σ2 H2)
theorem r_for1 {tr : TA} {j : Nat} {tb : TS} (h : tr σ H fun vs H1 => ∃ n : Int, vs = [.int n] ∧ -(2 ^ 62) ≤ n ∧ n < 2 ^ 62 ∧ LoopR 0 n.toNat j tb ⟨nx, rt, bk, ct⟩ σ H1) : tFor (iRng1 tr) (gName j) tb ⟨nx, rt, bk, ct⟩ σ H := h
theorem r_rng1 {n : Int} {N : Int → Prop} (h : -1000000 ≤ n ∧ n ≤ 1000000) (q : N n) : ∃ m : Int, ([.int n] : List V) = [.int m] ∧ -(2 ^ 62) ≤ m ∧ m < 2 ^ 62 ∧ N m := ⟨n, rfl, by omega, by omega, q⟩
theorem r_for2 {tr : TA} {j : Nat} {tb : TS} (h : tr σ H fun vs H1 => ∃ m n : Int, vs = [.int m, .int n] ∧ (-(2 ^ 62) ≤ m ∧ m < 2 ^ 62 ∧ -(2 ^ 62) ≤ n ∧ n < 2 ^ 62) ∧ LoopR m (n - m).toNat j tb ⟨nx, rt, bk, ct⟩ σ H1) : tFor (iRng2 tr) (gName j) tb ⟨nx, rt, bk, ct⟩ σ H := h
theorem r_rng2 {m n : Int} {N : Int → Int → Prop} (h : -1000000 ≤ m ∧ m ≤ 1000000 ∧ -1000000 ≤ n ∧ n ≤ 1000000) (q : N m n) : ∃ a b : Int, ([.int m, .int n] : List V) = [.int a, .int b] ∧ (-(2 ^ 62) ≤ a ∧ a < 2 ^ 62 ∧ -(2 ^ 62) ≤ b ∧ b < 2 ^ 62) ∧ N a b := ⟨m, n, rfl, ⟨by omega, by omega, by omega, by omega⟩, q⟩
theorem r_forL {j : Nat} {tb : TS} (h : te σ H fun x H1 => ∃ a, x = .ref a ∧ (∃ xs, SqL K H1 a xs) ∧ LoopL K a j tb ⟨nx, rt, bk, ct⟩ σ H1) : tFor (iList K te) (gName j) tb ⟨nx, rt, bk, ct⟩ σ H := h
theorem r_itL {a : Addr} {xs : List V} {N : Addr → Prop} (h : SqL K H a xs) (q : N a) : ∃ b, V.ref a = .ref b ∧ (∃ xs, SqL K H b xs) ∧ N b := ⟨a, rfl, ⟨xs, h⟩, q⟩
theorem r_forC {j : Nat} {tb : TS} {tr : L2.St → Hp → (Int → Int → Hp → Prop) → Prop} (h : tr σ H fun a b H1 => -(2 ^ 62) ≤ a ∧ a < 2 ^ 62 ∧ -(2 ^ 62) ≤ b ∧ b < 2 ^ 62 ∧ LoopC (a + (((b - a).toNat : Nat) : Int) - 1) (-1) (b - a).toNat j tb ⟨nx, rt, bk, ct⟩ σ H1) : tFor (iRevR tr) (gName j) tb ⟨nx, rt, bk, ct⟩ σ H := h
theorem r_loopR {lo : Int} {n j : Nat} {tb : TS} (Pv : Nat → L2.St → Hp → Prop) (h0 : Pv 0 σ H)
    (hs : ∀ i σ' H', i < n → Pv i σ' H' → tb ⟨Pv (i + 1), rt, nx, Pv (i + 1)⟩ (σ'.set j (some (.int (lo + (i : Int))))) H') (hd : ∀ σ' H', Pv n σ' H' → nx σ' H') : LoopR lo n j tb ⟨nx, rt, bk, ct⟩ σ H :=
  for_range (g := gName j) Pv h0 hs hd
theorem r_loop0 {n j : Nat} {tb : TS} (Pv : Nat → L2.St → Hp → Prop) (h0 : Pv 0 σ H)
    (hs : ∀ i σ' H', i < n → Pv i σ' H' → tb ⟨Pv (i + 1), rt, nx, Pv (i + 1)⟩ (σ'.set j (some (.int (i : Int)))) H') (hd : ∀ σ' H', Pv n σ' H' → nx σ' H') : LoopR 0 n j tb ⟨nx, rt, bk, ct⟩ σ H :=
  r_loopR Pv h0 (fun i σ' H' hi hp => by
    have e : (0 : Int) + (i : Int) = (i : Int) := Int.zero_add _
    rw [e]
    exact hs i σ' H' hi hp) hd
theorem r_loopC {lo c : Int} {n j : Nat} {tb : TS} (Pv : Nat → L2.St → Hp → Prop) (h0 : Pv 0 σ H)
    (hs : ∀ i σ' H', i < n → Pv i σ' H' → tb ⟨Pv (i + 1), rt, nx, Pv (i + 1)⟩ (σ'.set j (some (.int (lo + (i : Nat) * c)))) H') (hd : ∀ σ' H', Pv n σ' H' → nx σ' H') : LoopC lo c n j tb ⟨nx, rt, bk, ct⟩ σ H :=
  for_rangeC (g := gName j) Pv h0 hs hd
theorem r_loopL {a : Addr} {xs : List V} {j : Nat} {tb : TS} (Pv : Nat → L2.St → Hp → Prop) (h0 : Pv 0 σ H) (hl : ∀ i σ' H', i ≤ xs.length → Pv i σ' H' → SqL K H' a xs)
    (hs : ∀ i x σ' H', xs[i]? = some x → Pv i σ' H' → tb ⟨Pv (i + 1), rt, nx, Pv (i + 1)⟩ (σ'.set j (some x)) H') (hd : ∀ σ' H', Pv xs.length σ' H' → nx σ' H') : LoopL K a j tb ⟨nx, rt, bk, ct⟩ σ H :=
  for_list (g := gName j) Pv h0 hl hs hd
theorem nth_int {ns : List Int} {i : Nat} {x : V} (h : (ns.map V.int)[i]? = some x) : ∃ z, ns[i]? = some z ∧ x = .int z := by
  rw [List.getElem?_map] at h
  cases e : ns[i]? with
  | none =>
    rw [e] at h
    cases h
  | some z =>
    rw [e] at h
    exact ⟨z, rfl, (Option.some.inj h).symm⟩
theorem r_loopI {a : Addr} {ns : List Int} {j : Nat} {tb : TS} (Pv : Nat → L2.St → Hp → Prop) (h0 : Pv 0 σ H) (hl : ∀ i σ' H', i ≤ ns.length → Pv i σ' H' → SqL K H' a (ns.map V.int))
    (hs : ∀ i z σ' H', ns[i]? = some z → Pv i σ' H' → tb ⟨Pv (i + 1), rt, nx, Pv (i + 1)⟩ (σ'.set j (some (.int z))) H') (hd : ∀ σ' H', Pv ns.length σ' H' → nx σ' H') : LoopL K a j tb ⟨nx, rt, bk, ct⟩ σ H :=
  r_loopL (xs := ns.map V.int) Pv h0 (fun i σ' H' hi => hl i σ' H' (by rw [List.length_map] at hi; exact hi)) (fun i x σ' H' hi hp => by
    obtain ⟨z, hz, rfl⟩ := nth_int hi
    exact hs i z σ' H' hz hp) (fun σ' H' hp => hd σ' H' (by rw [List.length_map] at hp; exact hp))
theorem r_while (W : Nat → L2.St → Hp → Prop) (m0 : Nat) (h0 : W m0 σ H)
    (hs : ∀ m σ' H', W m σ' H' → tt σ' H' fun b H1 => if b = true then ∃ N : L2.St → Hp → Prop, (∀ σ2 H2, N σ2 H2 → ∃ m', m' < m ∧ W m' σ2 H2) ∧ t ⟨N, rt, nx, N⟩ σ' H1 else nx σ' H1) : tWhile tt t ⟨nx, rt, bk, ct⟩ σ H :=
  ⟨W, ⟨m0, h0⟩, hs⟩
theorem r_wh {W : Nat → L2.St → Hp → Prop} {m : Nat} (h : t ⟨fun σ2 H2 => ∃ m', m' < m ∧ W m' σ2 H2, rt, nx, fun σ2 H2 => ∃ m', m' < m ∧ W m' σ2 H2⟩ σ H) :
    ∃ N : L2.St → Hp → Prop, (∀ σ2 H2, N σ2 H2 → ∃ m', m' < m ∧ W m' σ2 H2) ∧ t ⟨N, rt, nx, N⟩ σ H := ⟨_, fun _ _ h => h, h⟩
theorem r_rg1 {N : Int → Int → Hp → Prop} (h : ta σ H fun x H1 => ∃ n, x = .int n ∧ N 0 n H1) : tRg1 ta σ H N := h
theorem r_rg2 {N : Int → Int → Hp → Prop} (h : ta σ H fun x H1 => tb σ H1 fun y H2 => ∃ i j, x = .int i ∧ y = .int j ∧ N i j H2) : tRg2 ta tb σ H N := h
theorem r_ij {i j : Int} {N : Int → Int → Prop} (h : N i j) : ∃ a b, V.int i = V.int a ∧ V.int j = V.int b ∧ N a b := ⟨i, j, rfl, rfl, h⟩
theorem r_rngC {i j : Int} {N : Prop} (h : -1000000 ≤ i ∧ i ≤ 1000000 ∧ -1000000 ≤ j ∧ j ≤ 1000000) (q : N) : -(2 ^ 62) ≤ i ∧ i < 2 ^ 62 ∧ -(2 ^ 62) ≤ j ∧ j < 2 ^ 62 ∧ N := ⟨by omega, by omega, by omega, by omega, q⟩
theorem r_index1 {a : Addr} {ns : List Int} {y : Int} {j : Nat} (h : SqL K H a (ns.map V.int)) (hj : ns[j]? = some y) (hno : ∀ m : Nat, m < j → ns[m]? ≠ some y) (q : Q (.int (j : Nat)) H) : rIndex K (.ref a) [.int y] H Q := by
  refine ⟨a, ns.map V.int, .int y, j, .int y, rfl, rfl, h, rfl, by rw [List.all_map]; exact List.all_eq_true.mpr fun _ _ => rfl, by rw [List.getElem?_map, hj] <;> rfl, ?_, fun m z hm hz => ?_, q⟩
  · show (y == y) = true
    exact beq_self_eq_true y
  · rw [List.getElem?_map] at hz
    cases e : ns[m]? with
    | none =>
      rw [e] at hz
      cases hz
    | some x =>
      rw [e] at hz
      obtain rfl := Option.some.inj hz
      show (x == y) = false
      exact beq_eq_false_iff_ne.mpr fun z => hno m hm (by rw [e, z])
def LoopT (K : PySem.W.Frag) (a : Addr) (j : Nat) (tb : TS) : TS := fun D σ H => ∃ W : Nat → Nat → L2.St → Hp → Prop, (∃ m, W 0 m σ H) ∧ ∀ i m σ H, W i m σ H →
  ((Itt K a).stop i H ∧ D.nx σ H) ∨ ((Itt K a).go i H ∧ ∃ N : L2.St → Hp → Prop, (∀ σ' H', N σ' H' → ∃ m', m' < m ∧ W (i + 1) m' σ' H') ∧ ∀ x H', (Itt K a).yld i H x H' → gName j x σ H' fun σ2 H2 => tb ⟨N, D.rt, D.nx, N⟩ σ2 H2)
theorem r_forT {j : Nat} {tb : TS} (h : te σ H fun x H1 => ∃ a, x = .ref a ∧ (∃ xs, SqT K H1 a xs) ∧ LoopT K a j tb ⟨nx, rt, bk, ct⟩ σ H1) : tFor (iTup K te) (gName j) tb ⟨nx, rt, bk, ct⟩ σ H := h
theorem r_itT {a : Addr} {xs : List V} {N : Addr → Prop} (h : SqT K H a xs) (q : N a) : ∃ b, V.ref a = .ref b ∧ (∃ xs, SqT K H b xs) ∧ N b := ⟨a, rfl, ⟨xs, h⟩, q⟩
theorem r_loopT {a : Addr} {xs : List V} {j : Nat} {tb : TS} (Pv : Nat → L2.St → Hp → Prop) (h0 : Pv 0 σ H) (hl : ∀ i σ' H', i ≤ xs.length → Pv i σ' H' → SqT K H' a xs)
    (hs : ∀ i x σ' H', xs[i]? = some x → Pv i σ' H' → tb ⟨Pv (i + 1), rt, nx, Pv (i + 1)⟩ (σ'.set j (some x)) H') (hd : ∀ σ' H', Pv xs.length σ' H' → nx σ' H') : LoopT K a j tb ⟨nx, rt, bk, ct⟩ σ H :=
  for_tup (g := gName j) Pv h0 hl hs hd
/-! comprehensions -/
def LcL (K : PySem.W.Frag) (a : Addr) (j : Nat) (tt : TT) (te : TE) (vs : List Nat) : TE := fun σ H Q => ∀ D, H D = none → ∃ W : Nat → Nat → Hp → Prop, (∃ m, W 0 m (upd H D (.lst []))) ∧ ∀ i m H, W i m H →
  ((Itl K a).stop i H ∧ Q (.ref D) H) ∨ ((Itl K a).go i H ∧ ∃ Nx : Hp → Prop, (∀ H', Nx H' → ∃ m', m' < m ∧ W (i + 1) m' H') ∧ ∀ x H', (Itl K a).yld i H x H' → gName j x (wipe σ vs) H' fun σ2 H2 => wipe σ2 vs = wipe σ vs ∧ tt σ2 H2 fun b H3 =>
    if b = true then te σ2 H3 fun y H4 => ∃ acc, H4 D = some (.lst acc) ∧ acc.length < sizeLine ∧ Nx (upd H4 D (.lst (acc ++ [y]))) else Nx H3)
def LcR (lo : Int) (n j : Nat) (tt : TT) (te : TE) (vs : List Nat) : TE := fun σ H Q => ∀ D, H D = none → ∃ W : Nat → Nat → Hp → Prop, (∃ m, W 0 m (upd H D (.lst []))) ∧ ∀ i m H, W i m H →
  ((Itr lo n).stop i H ∧ Q (.ref D) H) ∨ ((Itr lo n).go i H ∧ ∃ Nx : Hp → Prop, (∀ H', Nx H' → ∃ m', m' < m ∧ W (i + 1) m' H') ∧ ∀ x H', (Itr lo n).yld i H x H' → gName j x (wipe σ vs) H' fun σ2 H2 => wipe σ2 vs = wipe σ vs ∧ tt σ2 H2 fun b H3 =>
    if b = true then te σ2 H3 fun y H4 => ∃ acc, H4 D = some (.lst acc) ∧ acc.length < sizeLine ∧ Nx (upd H4 D (.lst (acc ++ [y]))) else Nx H3)
theorem r_lc1 {tr : TA} {j : Nat} {vs : List Nat} (h : tr σ H fun ws H1 => ∃ n : Int, ws = [.int n] ∧ -(2 ^ 62) ≤ n ∧ n < 2 ^ 62 ∧ LcR 0 n.toNat j tt te vs σ H1 Q) : tLc (iRng1 tr) (gName j) tt te vs σ H Q := h
theorem r_lc2 {tr : TA} {j : Nat} {vs : List Nat} (h : tr σ H fun ws H1 => ∃ m n : Int, ws = [.int m, .int n] ∧ (-(2 ^ 62) ≤ m ∧ m < 2 ^ 62 ∧ -(2 ^ 62) ≤ n ∧ n < 2 ^ 62) ∧ LcR m (n - m).toNat j tt te vs σ H1 Q) : tLc (iRng2 tr) (gName j) tt te vs σ H Q := h
theorem r_lcL {j : Nat} {vs : List Nat} (h : ta σ H fun x H1 => ∃ a, x = .ref a ∧ (∃ xs, SqL K H1 a xs) ∧ LcL K a j tt te vs σ H1 Q) : tLc (iList K ta) (gName j) tt te vs σ H Q := h
theorem r_yes {N : Bool → Hp → Prop} (h : N true H) : tYes σ H N := h
theorem r_LcL {a : Addr} {xs : List V} {j : Nat} {vs : List Nat} (hx : SqL K H a xs) (acc : Nat → List V) (h0 : acc 0 = []) (hz : ∀ i, i ≤ xs.length → (acc i).length ≤ 100000) (hw : ∀ x, wipe ((wipe σ vs).set j (some x)) vs = wipe σ vs)
    (hs : ∀ i x H' (N : VK) (Z : Hp → Prop), xs[i]? = some x → Same H H' → (∀ y H4, Same H' H4 → acc (i + 1) = acc i ++ [y] → N y H4) → (∀ H3, Same H' H3 → acc (i + 1) = acc i → Z H3) →
      tt ((wipe σ vs).set j (some x)) H' fun b H3 => if b = true then te ((wipe σ vs).set j (some x)) H3 N else Z H3)
    (hd : ∀ p H', H p = none → Same H H' → H' p = some (.lst (acc xs.length)) → Q (.ref p) H') : LcL K a j tt te vs σ H Q := by
  intro p np
  refine lc_list (g := gName j) (xs := xs) (fun i H' => i ≤ xs.length ∧ Same H H' ∧ H' p = some (.lst (acc i))) ⟨Nat.zero_le _, same_new np _, by rw [h0]; exact upd_same⟩ (fun i H' _ q => q.2.1.seq hx) (fun i x H' hi q => ?_) (fun H' q => hd p H' np q.2.1 q.2.2)
  obtain ⟨_, s, e⟩ := q
  have hil : i < xs.length := (List.getElem?_eq_some_iff.mp hi).1
  refine ⟨hw x, hs i x H' _ _ hi s (fun y H4 s4 e4 => ?_) fun H3 s3 e3 => ?_⟩
  · refine ⟨acc i, s4 _ _ e, Nat.lt_of_le_of_lt (hz i (Nat.le_of_lt hil)) (by decide), hil, ?_, ?_⟩
    · exact same_mut (s.trans s4) np
    · rw [e4]
      exact upd_same
  · exact ⟨hil, s.trans s3, by rw [e3]; exact s3 _ _ e⟩
theorem r_LcR {lo : Int} {n : Nat} {j : Nat} {vs : List Nat} (acc : Nat → List V) (h0 : acc 0 = []) (hz : ∀ i, i ≤ n → (acc i).length ≤ 100000) (hw : ∀ x, wipe ((wipe σ vs).set j (some x)) vs = wipe σ vs)
    (hs : ∀ i H' (N : VK) (Z : Hp → Prop), i < n → Same H H' → (∀ y H4, Same H' H4 → acc (i + 1) = acc i ++ [y] → N y H4) → (∀ H3, Same H' H3 → acc (i + 1) = acc i → Z H3) →
      tt ((wipe σ vs).set j (some (.int (lo + (i : Int))))) H' fun b H3 => if b = true then te ((wipe σ vs).set j (some (.int (lo + (i : Int))))) H3 N else Z H3)
    (hd : ∀ p H', H p = none → Same H H' → H' p = some (.lst (acc n)) → Q (.ref p) H') : LcR lo n j tt te vs σ H Q := by
  intro p np
  refine lc_range (g := gName j) (fun i H' => i ≤ n ∧ Same H H' ∧ H' p = some (.lst (acc i))) ⟨Nat.zero_le _, same_new np _, by rw [h0]; exact upd_same⟩ (fun i H' hi q => ?_) (fun H' q => hd p H' np q.2.1 q.2.2)
  obtain ⟨_, s, e⟩ := q
  refine ⟨hw _, hs i H' _ _ hi s (fun y H4 s4 e4 => ?_) fun H3 s3 e3 => ?_⟩
  · refine ⟨acc i, s4 _ _ e, Nat.lt_of_le_of_lt (hz i (Nat.le_of_lt hi)) (by decide), hi, ?_, ?_⟩
    · exact same_mut (s.trans s4) np
    · rw [e4]
      exact upd_same
  · exact ⟨hi, s.trans s3, by rw [e3]; exact s3 _ _ e⟩
theorem r_LcR0 {n : Nat} {j : Nat} {vs : List Nat} (acc : Nat → List V) (h0 : acc 0 = []) (hz : ∀ i, i ≤ n → (acc i).length ≤ 100000) (hw : ∀ x, wipe ((wipe σ vs).set j (some x)) vs = wipe σ vs)
    (hs : ∀ i H' (N : VK) (Z : Hp → Prop), i < n → Same H H' → (∀ y H4, Same H' H4 → acc (i + 1) = acc i ++ [y] → N y H4) → (∀ H3, Same H' H3 → acc (i + 1) = acc i → Z H3) →
      tt ((wipe σ vs).set j (some (.int (i : Int)))) H' fun b H3 => if b = true then te ((wipe σ vs).set j (some (.int (i : Int)))) H3 N else Z H3)
    (hd : ∀ p H', H p = none → Same H H' → H' p = some (.lst (acc n)) → Q (.ref p) H') : LcR 0 n j tt te vs σ H Q :=
  r_LcR acc h0 hz hw (fun i H' N Z hi s hN hZ => by
    have e : (0 : Int) + (i : Int) = (i : Int) := Int.zero_add _
    rw [e]
    exact hs i H' N Z hi s hN hZ) hd
/-- maps and filters, by how far one is -/
def mapAcc (f : V → V) (xs : List V) (i : Nat) : List V := (xs.take i).map f
theorem take_more {α : Type} : ∀ {l : List α} {i : Nat} {x : α}, l[i]? = some x → l.take (i + 1) = l.take i ++ [x]
  | [], i, x, h => by simp at h
  | a :: l, 0, x, h => by
    have e : a = x := Option.some.inj h
    subst e
    rfl
  | a :: l, i + 1, x, h => by
    have ih := take_more (l := l) (i := i) (x := x) h
    show a :: l.take (i + 1) = a :: l.take i ++ [x]
    rw [ih]
    rfl
end
theorem getD_at' {ns : List Int} {k : Nat} (h : k < ns.length) : ns[k]? = some (ns.getD k 0) := by
  rw [List.getD_eq_getElem?_getD, List.getElem?_eq_getElem h]
  rfl
theorem ix_nat {n : Nat} {i : Int} (h0 : 0 ≤ i) (h1 : i < (n : Int)) : ixN n i = some i.toNat := by
  unfold ixN
  rw [if_pos h0, if_pos h1]
theorem map_set (ns : List Int) (j : Nat) (z : Int) : (ns.map V.int).set j (.int z) = (ns.set j z).map V.int := by
  rw [List.map_set]
theorem r_setL {o : Addr} {i z : Int} {ns : List Int} {H : Hp} {Q : Hp → Prop} (h : H o = some (.lst (ns.map V.int))) (h0 : 0 ≤ i) (h1 : i < (ns.length : Int)) (q : Q (upd H o (.lst ((ns.set i.toNat z).map V.int)))) : rSetL (.ref o) (.int i) (.int z) H Q := by
  refine ⟨o, ns.map V.int, i, i.toNat, rfl, rfl, h, ?_, ?_⟩
  · rw [List.length_map]
    exact ix_nat h0 h1
  · rw [map_set]
    exact q
theorem rep_flat {n : Int} {x : V} : (List.replicate n.toNat [x]).flatten = List.replicate n.toNat x := by
  generalize n.toNat = k
  induction k with
  | zero => rfl
  | succ k ih =>
    rw [List.replicate_succ, List.flatten_cons, ih, List.replicate_succ]
    rfl
theorem r_rep {l : Addr} {k : Int} {x : V} {H : Hp} {Q : VK} (h : H l = some (.lst [x])) (h0 : -1000000 ≤ k) (h1 : k ≤ 1000000) (q : ∀ p, H p = none → Q (.ref p) (upd H p (.lst (List.replicate k.toNat x)))) : rRep (.ref l) (.int k) H Q := by
  refine ⟨l, k, [x], rfl, rfl, h, by omega, by omega, sz (by rw [List.length_singleton]; omega), fun p np => ?_⟩
  rw [rep_flat]
  exact q p np
theorem r_setV {o : Addr} {i : Int} {z : V} {xs : List V} {H : Hp} {Q : Hp → Prop} (h : H o = some (.lst xs)) (h0 : 0 ≤ i) (h1 : i < (xs.length : Int)) (q : Q (upd H o (.lst (xs.set i.toNat z)))) : rSetL (.ref o) (.int i) z H Q :=
  ⟨o, xs, i, i.toNat, rfl, rfl, h, by unfold ixN; rw [if_pos h0, if_pos h1], q⟩
theorem natmap_len (pl : List Nat) : (pl.map fun (n : Nat) => V.int (n : Int)).length = pl.length := List.length_map _
theorem pile_last {K : PySem.W.Frag} {pl : List Nat} {t : Nat} {H : Hp} {a : Addr} {Q : VK} (h : H a = some (.lst ((pl ++ [t]).map fun (n : Nat) => V.int (n : Int)))) (q : Q (.int (t : Int)) H) : rIxL K (.ref a) (.int (-1)) H Q := by
  refine r_ixL (VT.SqL.lst h) ?_ q
  rw [List.map_append]
  exact atI_last _ _
theorem r_popN {pl : List Nat} {t : Nat} {H : Hp} {a : Addr} {Q : VK} (h : H a = some (.lst ((pl ++ [t]).map fun (n : Nat) => V.int (n : Int)))) (q : Q (.int (t : Int)) (upd H a (.lst (pl.map fun (n : Nat) => V.int (n : Int))))) : rPop (.ref a) [] H Q := by
  refine ⟨a, _, .int (t : Int), rfl, rfl, h, ?_, ?_⟩
  · rw [List.map_append, List.length_append, List.length_map, List.length_map, List.length_singleton, Nat.add_sub_cancel, List.getElem?_append_right (by rw [List.length_map]; exact Nat.le_refl _), List.length_map, Nat.sub_self] <;> rfl
  · rw [List.map_append]
    show Q (.int (t : Int)) (upd H a (.lst ((pl.map fun (n : Nat) => V.int (n : Int)) ++ [V.int (t : Int)]).dropLast))
    rw [List.dropLast_concat]
    exact q
theorem pile_push (pl : List Nat) (k : Nat) : (pl.map fun (n : Nat) => V.int (n : Int)) ++ [V.int (k : Int)] = (pl ++ [k]).map fun (n : Nat) => V.int (n : Int) := by
  rw [List.map_append] <;> rfl
theorem concat_of {α : Type} {l : List α} (h : l ≠ []) : ∃ r t, l = r ++ [t] := ⟨l.dropLast, l.getLast h, (List.dropLast_concat_getLast h).symm⟩
theorem r_popV {l : Addr} {xs : List V} {y : V} {H : Hp} {Q : VK} (h : H l = some (.lst (xs ++ [y]))) (q : Q y (upd H l (.lst xs))) : rPop (.ref l) [] H Q := by
  refine ⟨l, xs ++ [y], y, rfl, rfl, h, ?_, ?_⟩
  · rw [List.length_append, List.length_singleton, Nat.add_sub_cancel, List.getElem?_append_right (Nat.le_refl _), Nat.sub_self] <;> rfl
  · rw [List.dropLast_concat]
    exact q
theorem r_tup3 {K : PySem.W.Frag} {σ : L2.St} {H : Hp} {a : Addr} {i j k : Nat} {x y z : V} {N : L2.St → Hp → Prop} (h : SqT K H a [x, y, z]) (q : N (((σ.set i (some x)).set j (some y)).set k (some z)) H) : gTup K 3 (gCons (gName i) (gCons (gName j) (gCons (gName k) gNil))) (.ref a) σ H N :=
  ⟨a, [x, y, z], rfl, h, rfl, x, [y, z], rfl, y, [z], rfl, z, [], rfl, rfl, q⟩
theorem r_tup2 {K : PySem.W.Frag} {σ : L2.St} {H : Hp} {a : Addr} {i j : Nat} {x y : V} {N : L2.St → Hp → Prop} (h : SqT K H a [x, y]) (q : N ((σ.set i (some x)).set j (some y)) H) : gTup K 2 (gCons (gName i) (gCons (gName j) gNil)) (.ref a) σ H N :=
  ⟨a, [x, y], rfl, h, rfl, x, [y], rfl, y, [], rfl, rfl, q⟩
theorem r_in {K : PySem.W.Frag} {p : Addr} {x : V} {xs : List V} {H : Hp} {Q : VK} (h : SqL K H p xs) (f1 : flatV x = true) (f2 : xs.all flatV = true) (q : Q (.bl (inV x xs)) H) : rIn K false x (.ref p) H Q := ⟨p, xs, rfl, .inl h, f1, f2, q⟩
theorem inV_nat {ys : List Nat} {x : Nat} : inV (.int (x : Int)) (ys.map fun (n : Nat) => V.int (n : Int)) = decide (x ∈ ys) := by
  unfold inV
  induction ys with
  | nil => rfl
  | cons y ys ih =>
    rw [List.map_cons, List.any_cons, ih]
    show (((y : Int) == (x : Int)) || decide (x ∈ ys)) = decide (x ∈ y :: ys)
    by_cases e : y = x
    · subst e
      simp
    · have e1 : ((y : Int) == (x : Int)) = false := beq_eq_false_iff_ne.mpr (by omega)
      have e2 : x ≠ y := fun z => e z.symm
      rw [e1]
      simp [e2]
theorem flat_nat {ys : List Nat} : (ys.map fun (n : Nat) => V.int (n : Int)).all flatV = true := by
  rw [List.all_map]
  exact List.all_eq_true.mpr fun _ _ => rfl
theorem SqL.keep {K : PySem.W.Frag} {H H' : Hp} {a : Addr} {xs : List V} (h : SqL K H a xs) (e : ∀ o, H a = some o → H' a = some o) : SqL K H' a xs := by
  rcases h with (h | ⟨o, h⟩) | h
  · exact .inl (.inl (e _ h))
  · exact .inl (.inr ⟨o, e _ h⟩)
  · exact .inr h
def lcScope : Stmt → Scope
  | .Assign _ (.ListComp _ _ sc _) _ => sc
  | _ => default
theorem ifE_join {σ : L2.St} {H : Hp} {Q : VK} {p : Prop} [Decidable p] {ta tb : TE} (M : V → Hp → Prop) (k : ∀ v H', M v H' → Q v H') (hA : p → (∀ v H', M v H' → Q v H') → ta σ H Q) (hB : ¬ p → (∀ v H', M v H' → Q v H') → tb σ H Q) : if decide p = true then ta σ H Q else tb σ H Q :=
  brD (fun c => hA c k) (fun c => hB c k)
theorem But.same' {D : Addr} {H H' : Hp} {o : HO} (e : Same H H') : But D H (upd H' D o) := (But.of e).up
/-- a comprehension whose items stand in the heap -/
theorem r_LcLP {K : PySem.W.Frag} {σ : L2.St} {H : Hp} {Q : VK} {tt : TT} {te : TE} {a : Addr} {xs : List V} {j : Nat} {vs : List Nat} (hx : SqL K H a xs) (P : Addr → Nat → List V → Hp → Prop) (h0 : ∀ D H1, H D = none → P D 0 [] H1)
    (mono : ∀ D i acc H1 H2, But D H1 H2 → P D i acc H1 → P D i acc H2) (hz : ∀ D i acc H1, i ≤ xs.length → P D i acc H1 → acc.length ≤ 100000) (hw : ∀ x, wipe ((wipe σ vs).set j (some x)) vs = wipe σ vs)
    (hs : ∀ D i x H' acc (N : VK) (Z : Hp → Prop), H D = none → xs[i]? = some x → Same H H' → H' D = some (.lst acc) → P D i acc H' → (∀ y H4, Same H' H4 → P D (i + 1) (acc ++ [y]) H4 → N y H4) → (∀ H3, Same H' H3 → P D (i + 1) acc H3 → Z H3) →
      tt ((wipe σ vs).set j (some x)) H' fun b H3 => if b = true then te ((wipe σ vs).set j (some x)) H3 N else Z H3)
    (hd : ∀ D H' acc, H D = none → Same H H' → H' D = some (.lst acc) → P D xs.length acc H' → Q (.ref D) H') : LcL K a j tt te vs σ H Q := by
  intro p np
  refine lc_list (g := gName j) (xs := xs) (fun i H' => i ≤ xs.length ∧ Same H H' ∧ ∃ acc, H' p = some (.lst acc) ∧ P p i acc H') ⟨Nat.zero_le _, same_new np _, [], upd_same, h0 _ _ np⟩ (fun i H' _ q => q.2.1.seq hx) (fun i x H' hi q => ?_) (fun H' q => ?_)
  · obtain ⟨_, s, acc, e, hP⟩ := q
    have hil : i < xs.length := (List.getElem?_eq_some_iff.mp hi).1
    refine ⟨hw x, hs p i x H' acc _ _ np hi s e hP (fun y H4 s4 p4 => ?_) fun H3 s3 p3 => ?_⟩
    · refine ⟨acc, s4 _ _ e, Nat.lt_of_le_of_lt (hz _ _ _ _ (Nat.le_of_lt hil) hP) (by decide), hil, same_mut (s.trans s4) np, _, upd_same, ?_⟩
      exact mono p (i + 1) _ H4 _ ((But.of (Same.refl _)).up) p4
    · exact ⟨hil, s.trans s3, acc, s3 _ _ e, p3⟩
  · obtain ⟨_, s, acc, e, hP⟩ := q
    exact hd p H' acc np s e hP
theorem fnOk_no {P : Program} {w : World} {K : PySem.W.Frag} {mg : Str → Option Value} {base : Heap} {CX : CXT} {k : Nat} {f : Addr} {fd : FuncData} {ps : List Str} {sp : Sp} (h : ∀ vs H Q E, ¬ sp vs H Q E) : FnOk P w K mg base CX k f fd ps sp :=
  ⟨fun vs H Q E z => absurd z (h vs H Q E), fun A outer s H args us vs Q E _ _ _ _ z => absurd z (h vs H Q E)⟩
end VT
/-! ### the least of a stretch -/
namespace VT
/-- of the places from i to j the first with the least number is at, the number m -/
structure IsLeast (ns : List Int) (i j : Nat) (m : Int) (at' : Nat) : Prop where
  lo : i ≤ at'
  hi : at' < j
  val : ns[at']? = some m
  le : ∀ k x, i ≤ k → k < j → ns[k]? = some x → m ≤ x
  fst : ∀ k x, i ≤ k → k < at' → ns[k]? = some x → m < x
theorem IsLeast.uniq {ns : List Int} {i j : Nat} {m m' : Int} {a a' : Nat} (h : IsLeast ns i j m a) (h' : IsLeast ns i j m' a') : m = m' ∧ a = a' := by
  have e : m = m' := by
    have h1 := h.le a' m' h'.lo h'.hi h'.val
    have h2 := h'.le a m h.lo h.hi h.val
    omega
  refine ⟨e, ?_⟩
  subst e
  rcases Nat.lt_trichotomy a a' with c | c | c
  · have := h'.fst a m h.lo c h.val
    omega
  · exact c
  · have := h.fst a' m h'.lo c h'.val
    omega
theorem first_at {ns : List Int} {i : Nat} {m : Int} : ∀ (k : Nat), i ≤ k → ns[k]? = some m → ∃ j, i ≤ j ∧ j ≤ k ∧ ns[j]? = some m ∧ ∀ l, i ≤ l → l < j → ns[l]? ≠ some m := by
  intro k
  induction k using Nat.strongRecOn with
  | _ k ih =>
    intro h1 h2
    by_cases h : ∃ l, i ≤ l ∧ l < k ∧ ns[l]? = some m
    · obtain ⟨l, a, b, c⟩ := h
      obtain ⟨j, j1, j2, j3, j4⟩ := ih l b a c
      exact ⟨j, j1, by omega, j3, j4⟩
    · exact ⟨k, h1, Nat.le_refl _, h2, fun l a b c => h ⟨l, a, b, c⟩⟩
theorem slice_get {ns : List Int} {i j : Nat} {k : Nat} : ((ns.drop i).take (j - i))[k]? = if k < j - i then ns[i + k]? else none := by
  rw [List.getElem?_take]
  split
  · rw [List.getElem?_drop]
  · rfl
theorem mem_slice {ns : List Int} {i j : Nat} {m : Int} (h : m ∈ (ns.drop i).take (j - i)) : ∃ k, i ≤ k ∧ k < j ∧ ns[k]? = some m := by
  obtain ⟨k, hk⟩ := List.mem_iff_getElem?.mp h
  rw [slice_get] at hk
  split at hk
  · exact ⟨i + k, by omega, by omega, hk⟩
  · cases hk
theorem in_slice {ns : List Int} {i j k : Nat} {x : Int} (h1 : i ≤ k) (h2 : k < j) (h : ns[k]? = some x) : x ∈ (ns.drop i).take (j - i) := by
  refine List.mem_iff_getElem?.mpr ⟨k - i, ?_⟩
  rw [slice_get, if_pos (by omega)]
  have e : i + (k - i) = k := by omega
  rw [e]
  exact h
/-- from the least of the slice's numbers to the place -/
theorem least_of_min {ns : List Int} {i j : Nat} {m : Int} (hm : m ∈ (ns.drop i).take (j - i)) (hle : ∀ x, x ∈ (ns.drop i).take (j - i) → m ≤ x) : ∃ at', IsLeast ns i j m at' ∧ ∀ l, i ≤ l → l < at' → ns[l]? ≠ some m := by
  obtain ⟨k, k1, k2, k3⟩ := mem_slice hm
  obtain ⟨a, a1, a2, a3, a4⟩ := first_at k k1 k3
  refine ⟨a, ⟨a1, by omega, a3, fun k' x h1 h2 h3 => hle x (in_slice h1 h2 h3), fun k' x h1 h2 h3 => ?_⟩, a4⟩
  have h4 := hle x (in_slice h1 (by omega) h3)
  have h5 : x ≠ m := fun e => a4 k' h1 h2 (by rw [h3, e])
  omega
theorem IsLeast.one {ns : List Int} {i : Nat} {m : Int} (h : ns[i]? = some m) : IsLeast ns i (i + 1) m i :=
  ⟨Nat.le_refl _, Nat.lt_succ_self _, h, fun k x h1 h2 h3 => by
    have e : k = i := by omega
    rw [e, h] at h3
    exact Int.le_of_eq (Option.some.inj h3), fun k x h1 h2 _ => by omega⟩
theorem IsLeast.less {ns : List Int} {i j : Nat} {m x : Int} {a : Nat} (h : IsLeast ns i j m a) (hx : ns[j]? = some x) (hl : x < m) : IsLeast ns i (j + 1) x j :=
  ⟨by have := h.lo; have := h.hi; omega, Nat.lt_succ_self _, hx, fun k y h1 h2 h3 => by
    by_cases e : k = j
    · rw [e, hx] at h3
      exact Int.le_of_eq (Option.some.inj h3)
    · have := h.le k y h1 (by omega) h3
      omega, fun k y h1 h2 h3 => by
    have := h.le k y h1 h2 h3
    omega⟩
theorem IsLeast.more {ns : List Int} {i j : Nat} {m x : Int} {a : Nat} (h : IsLeast ns i j m a) (hx : ns[j]? = some x) (hl : ¬ x < m) : IsLeast ns i (j + 1) m a :=
  ⟨h.lo, by have := h.hi; omega, h.val, fun k y h1 h2 h3 => by
    by_cases e : k = j
    · rw [e, hx] at h3
      have := Option.some.inj h3
      omega
    · exact h.le k y h1 (by omega) h3, h.fst⟩
end VT
/-! ### trees over places -/
namespace VT
open L2
inductive BT where
  | nil : BT
  | node (l r : BT) : BT
def BT.size : BT → Nat
  | .nil => 0
  | .node l r => l.size + 1 + r.size
def oV : Option Nat → V
  | none => .non
  | some n => .int (n : Int)
/-- what stands over each place, from f on, under top -/
def BT.code : BT → Nat → Option Nat → List (Option Nat)
  | .nil, _, _ => []
  | .node l r, f, top => l.code f (some (f + l.size)) ++ top :: r.code (f + l.size + 1) (some (f + l.size))
def BT.codeV (t : BT) (f : Nat) (top : Option Nat) : List V := (t.code f top).map oV
def BT.deep : BT → Nat → List Nat
  | .nil, _ => []
  | .node l r, d => l.deep (d + 1) ++ d :: r.deep (d + 1)
def BT.deepI (t : BT) : List Int := (t.deep 0).map fun (n : Nat) => (n : Int)
theorem BT.code_len : ∀ (t : BT) (f : Nat) (top : Option Nat), (t.code f top).length = t.size
  | .nil, _, _ => rfl
  | .node l r, f, top => by
    show (l.code f (some (f + l.size)) ++ top :: r.code (f + l.size + 1) (some (f + l.size))).length = l.size + 1 + r.size
    rw [List.length_append, List.length_cons, BT.code_len l, BT.code_len r]
    omega
theorem BT.codeV_len (t : BT) (f : Nat) (top : Option Nat) : (t.codeV f top).length = t.size := by
  unfold BT.codeV
  rw [List.length_map, BT.code_len]
theorem BT.deep_len : ∀ (t : BT) (d : Nat), (t.deep d).length = t.size
  | .nil, _ => rfl
  | .node l r, d => by
    show (l.deep (d + 1) ++ d :: r.deep (d + 1)).length = l.size + 1 + r.size
    rw [List.length_append, List.length_cons, BT.deep_len l, BT.deep_len r]
    omega
theorem oV_ok : ∀ x : Option Nat, okV (oV x) = true
  | none => rfl
  | some _ => rfl
theorem BT.codeV_ok (t : BT) (f : Nat) (top : Option Nat) : (t.codeV f top).all okV = true := by
  unfold BT.codeV
  rw [List.all_map]
  exact List.all_eq_true.mpr fun x _ => oV_ok x
theorem oV_inj : ∀ {x y : Option Nat}, oV x = oV y → x = y
  | none, none, _ => rfl
  | none, some _, h => by cases h
  | some _, none, h => by cases h
  | some a, some b, h => by
    have : (a : Int) = (b : Int) := V.int.inj h
    rw [show a = b by omega]
theorem map_oV_inj : ∀ {xs ys : List (Option Nat)}, xs.map oV = ys.map oV → xs = ys
  | [], [], _ => rfl
  | [], _ :: _, h => by cases h
  | _ :: _, [], h => by cases h
  | x :: xs, y :: ys, h => by
    rw [List.map_cons, List.map_cons] at h
    injection h with h1 h2
    rw [oV_inj h1, map_oV_inj h2]
/-- c written over xs from f on -/
def splice {α : Type} (xs : List α) (f : Nat) (c : List α) : List α := xs.take f ++ c ++ xs.drop (f + c.length)
theorem splice_get {α : Type} {xs : List α} {f : Nat} {c : List α} (h : f + c.length ≤ xs.length) (p : Nat) : (splice xs f c)[p]? = if p < f then xs[p]? else if p < f + c.length then c[p - f]? else xs[p]? := by
  unfold splice
  rw [List.append_assoc]
  by_cases h1 : p < f
  · rw [if_pos h1, List.getElem?_append_left (by rw [List.length_take]; omega), List.getElem?_take, if_pos h1]
  · rw [if_neg h1, List.getElem?_append_right (by rw [List.length_take]; omega), List.length_take, Nat.min_eq_left (by omega)]
    by_cases h2 : p < f + c.length
    · rw [if_pos h2, List.getElem?_append_left (by omega)]
    · rw [if_neg h2, List.getElem?_append_right (by omega), List.getElem?_drop]
      congr 1
      omega
theorem splice_len {α : Type} {xs : List α} {f : Nat} {c : List α} (h : f + c.length ≤ xs.length) : (splice xs f c).length = xs.length := by
  unfold splice
  rw [List.length_append, List.length_append, List.length_take, List.length_drop]
  omega
theorem splice_nil {α : Type} (xs : List α) (f : Nat) : splice xs f [] = xs := by
  unfold splice
  rw [List.append_nil]
  exact List.take_append_drop f xs
theorem splice_all {α : Type} {xs c : List α} (h : c.length = xs.length) : splice xs 0 c = c := by
  unfold splice
  rw [List.take_zero, List.nil_append, Nat.zero_add, h, List.drop_length, List.append_nil]
theorem node_get {α : Type} (c1 c2 : List α) (v : α) (i : Nat) : (c1 ++ v :: c2)[i]? = if i < c1.length then c1[i]? else if i = c1.length then some v else c2[i - c1.length - 1]? := by
  by_cases h1 : i < c1.length
  · rw [if_pos h1, List.getElem?_append_left h1]
  · rw [if_neg h1, List.getElem?_append_right (by omega)]
    by_cases h2 : i = c1.length
    · rw [if_pos h2, h2, Nat.sub_self] <;> rfl
    · rw [if_neg h2, show i - c1.length = i - c1.length - 1 + 1 by omega] <;> rfl
/-- the head, then ahead of it, then behind it -/
theorem splice_node {α : Type} {xs c1 c2 : List α} {f : Nat} {v : α} (h : f + c1.length + 1 + c2.length ≤ xs.length) : splice (splice (xs.set (f + c1.length) v) f c1) (f + c1.length + 1) c2 = splice xs f (c1 ++ v :: c2) := by
  have hl : (c1 ++ v :: c2).length = c1.length + 1 + c2.length := by
    rw [List.length_append, List.length_cons]
    omega
  apply List.ext_getElem?
  intro p
  rw [splice_get (by rw [splice_len (by rw [List.length_set]; omega), List.length_set]; omega), splice_get (by rw [List.length_set]; omega), splice_get (by rw [hl]; omega), List.getElem?_set, hl, node_get]
  by_cases h1 : p < f
  · rw [if_pos (by omega), if_pos h1, if_neg (by omega), if_pos h1]
  · rw [if_neg h1, if_neg h1]
    by_cases h2 : p < f + c1.length
    · rw [if_pos (by omega), if_pos h2, if_pos (by omega), if_pos (by omega)]
    · by_cases h3 : p = f + c1.length
      · rw [if_pos (by omega), if_neg h2, if_pos h3.symm, if_pos (by omega), if_pos (by omega), if_neg (by omega), if_pos (by omega)]
      · rw [if_neg (by omega)]
        by_cases h4 : p < f + c1.length + 1 + c2.length
        · rw [if_pos h4, if_pos (by omega), if_neg (by omega), if_neg (by omega)]
          congr 1
          omega
        · rw [if_neg h4, if_neg h2, if_neg (by omega), if_neg (by omega)]
theorem splice_node' {α : Type} {xs c1 c2 : List α} {f : Nat} {v : α} (h : f + c1.length + 1 + c2.length ≤ xs.length) : splice (splice (xs.set (f + c1.length) v) (f + c1.length + 1) c2) f c1 = splice xs f (c1 ++ v :: c2) := by
  have hl : (c1 ++ v :: c2).length = c1.length + 1 + c2.length := by
    rw [List.length_append, List.length_cons]
    omega
  apply List.ext_getElem?
  intro p
  rw [splice_get (by rw [splice_len (by rw [List.length_set]; omega), List.length_set]; omega), splice_get (by rw [List.length_set]; omega), splice_get (by rw [hl]; omega), List.getElem?_set, hl, node_get]
  by_cases h1 : p < f
  · rw [if_pos h1, if_pos (by omega), if_neg (by omega), if_pos h1]
  · rw [if_neg h1, if_neg h1]
    by_cases h2 : p < f + c1.length
    · rw [if_pos h2, if_pos (by omega), if_pos (by omega)]
    · rw [if_neg h2]
      by_cases h3 : p = f + c1.length
      · rw [if_pos (by omega), if_pos h3.symm, if_pos (by omega), if_pos (by omega), if_neg (by omega), if_pos (by omega)]
      · rw [if_neg (by omega)]
        by_cases h4 : p < f + c1.length + 1 + c2.length
        · rw [if_pos h4, if_pos (by omega), if_neg (by omega), if_neg (by omega)]
          congr 1
          omega
        · rw [if_neg h4, if_neg (by omega), if_neg (by omega)]
theorem BT.codeV_node (l r : BT) (f : Nat) (top : Option Nat) : (BT.node l r).codeV f top = l.codeV f (some (f + l.size)) ++ oV top :: r.codeV (f + l.size + 1) (some (f + l.size)) := by
  unfold BT.codeV
  show (l.code f (some (f + l.size)) ++ top :: r.code (f + l.size + 1) (some (f + l.size))).map oV = _
  rw [List.map_append, List.map_cons]
theorem splice_tree {xs : List V} {f : Nat} {l r : BT} {top : Option Nat} (h : f + (BT.node l r).size ≤ xs.length) : splice (splice (xs.set (f + l.size) (oV top)) f (l.codeV f (some (f + l.size)))) (f + l.size + 1) (r.codeV (f + l.size + 1) (some (f + l.size))) = splice xs f ((BT.node l r).codeV f top) := by
  have h' : f + (l.size + 1 + r.size) ≤ xs.length := h
  have e := splice_node (xs := xs) (c1 := l.codeV f (some (f + l.size))) (c2 := r.codeV (f + l.size + 1) (some (f + l.size))) (f := f) (v := oV top) (by rw [BT.codeV_len, BT.codeV_len]; omega)
  rw [BT.codeV_len] at e
  rw [BT.codeV_node]
  exact e
theorem splice_tree' {xs : List V} {f : Nat} {l r : BT} {top : Option Nat} (h : f + (BT.node l r).size ≤ xs.length) : splice (splice (xs.set (f + l.size) (oV top)) (f + l.size + 1) (r.codeV (f + l.size + 1) (some (f + l.size)))) f (l.codeV f (some (f + l.size))) = splice xs f ((BT.node l r).codeV f top) := by
  have h' : f + (l.size + 1 + r.size) ≤ xs.length := h
  have e := splice_node' (xs := xs) (c1 := l.codeV f (some (f + l.size))) (c2 := r.codeV (f + l.size + 1) (some (f + l.size))) (f := f) (v := oV top) (by rw [BT.codeV_len, BT.codeV_len]; omega)
  rw [BT.codeV_len] at e
  rw [BT.codeV_node]
  exact e
/-- the tree of lesser numbers -/
inductive IsCart (ns : List Int) : Nat → Nat → BT → Prop where
  | nil (f : Nat) : IsCart ns f f .nil
  | node {f b h : Nat} {m : Int} {l r : BT} (hm : IsLeast ns f b m h) (hl : IsCart ns f h l) (hr : IsCart ns (h + 1) b r) : IsCart ns f b (.node l r)
theorem IsCart.size {ns : List Int} {f b : Nat} {t : BT} (h : IsCart ns f b t) : f + t.size = b := by
  induction h with
  | nil f => rfl
  | node hm hl hr il ir =>
    show _ + (_ + 1 + _) = _
    omega
theorem IsCart.uniq {ns : List Int} {f b : Nat} {t : BT} (h : IsCart ns f b t) : ∀ {u : BT}, IsCart ns f b u → t = u := by
  induction h with
  | nil f =>
    intro u hu
    cases hu with
    | nil => rfl
    | node hm _ _ =>
      have := hm.lo
      have := hm.hi
      omega
  | node hm hl hr il ir =>
    intro u hu
    cases hu with
    | nil =>
      have := hm.lo
      have := hm.hi
      omega
    | node hm' hl' hr' =>
      obtain ⟨_, e⟩ := hm.uniq hm'
      subst e
      rw [il hl', ir hr']
theorem IsLeast.ex {ns : List Int} {i : Nat} : ∀ {d : Nat}, i + d < ns.length → ∃ m a, IsLeast ns i (i + (d + 1)) m a
  | 0, h => ⟨_, _, IsLeast.one (getD_at' h)⟩
  | d + 1, h => by
    obtain ⟨m, a, hL⟩ := IsLeast.ex (ns := ns) (i := i) (d := d) (by omega)
    have hv := getD_at' (ns := ns) (k := i + (d + 1)) h
    by_cases c : ns.getD (i + (d + 1)) 0 < m
    · exact ⟨_, _, hL.less hv c⟩
    · exact ⟨_, _, hL.more hv c⟩
theorem IsCart.ex {ns : List Int} : ∀ (n f b : Nat), b - f ≤ n → f ≤ b → b ≤ ns.length → ∃ t, IsCart ns f b t
  | 0, f, b, h1, h2, _ => by
    obtain rfl : f = b := by omega
    exact ⟨_, .nil f⟩
  | n + 1, f, b, h1, h2, h3 => by
    by_cases c : f = b
    · subst c
      exact ⟨_, .nil f⟩
    · obtain ⟨m, a, hL⟩ := IsLeast.ex (ns := ns) (i := f) (d := b - f - 1) (by omega)
      rw [show f + (b - f - 1 + 1) = b by omega] at hL
      have g1 := hL.lo
      have g2 := hL.hi
      obtain ⟨l, hl⟩ := IsCart.ex (ns := ns) n f a (by omega) g1 (by omega)
      obtain ⟨r, hr⟩ := IsCart.ex (ns := ns) n (a + 1) b (by omega) (by omega) h3
      exact ⟨_, .node hL hl hr⟩
theorem cart_ex (ns : List Int) : ∃ t, IsCart ns 0 ns.length t := IsCart.ex ns.length 0 ns.length (by omega) (Nat.zero_le _) (Nat.le_refl _)
/-- numbers in like order have like trees -/
theorem IsLeast.like {ns ms : List Int} {i j : Nat} {m : Int} {a : Nat} (h : IsLeast ns i j m a) (hlen : ns.length = ms.length) (hlt : ∀ (p q : Nat) (x y x' y' : Int), i ≤ p → p < j → i ≤ q → q < j → ns[p]? = some x → ns[q]? = some y → ms[p]? = some x' → ms[q]? = some y' → (x ≤ y → x' ≤ y') ∧ (x < y → x' < y')) : ∃ m', IsLeast ms i j m' a := by
  have hal : a < ns.length := (List.getElem?_eq_some_iff.mp h.val).1
  have hv : ms[a]? = some (ms.getD a 0) := getD_at' (by omega)
  have h1 := h.lo
  have h2 := h.hi
  refine ⟨ms.getD a 0, h1, h2, hv, fun k x k1 k2 hk => ?_, fun k x k1 k2 hk => ?_⟩
  · have hkl : k < ms.length := (List.getElem?_eq_some_iff.mp hk).1
    have hk' := getD_at' (ns := ns) (k := k) (by omega)
    exact (hlt a k _ _ _ _ h1 h2 k1 k2 h.val hk' hv hk).1 (h.le k _ k1 k2 hk')
  · have hkl : k < ms.length := (List.getElem?_eq_some_iff.mp hk).1
    have hk' := getD_at' (ns := ns) (k := k) (by omega)
    exact (hlt a k _ _ _ _ h1 h2 k1 (by omega) h.val hk' hv hk).2 (h.fst k _ k1 k2 hk')
theorem IsCart.like {ns ms : List Int} (hlen : ns.length = ms.length) (hlt : ∀ (p q : Nat) (x y x' y' : Int), ns[p]? = some x → ns[q]? = some y → ms[p]? = some x' → ms[q]? = some y' → (x ≤ y → x' ≤ y') ∧ (x < y → x' < y')) {f b : Nat} {t : BT} (h : IsCart ns f b t) : IsCart ms f b t := by
  induction h with
  | nil f => exact .nil f
  | node hm hl hr il ir =>
    obtain ⟨m', h'⟩ := hm.like hlen fun p q x y x' y' _ _ _ _ => hlt p q x y x' y'
    exact .node h' il ir
theorem IsCart.map {ns : List Int} {g : Int → Int} (hg : ∀ x y, (x ≤ y → g x ≤ g y) ∧ (x < y → g x < g y)) {f b : Nat} {t : BT} (h : IsCart ns f b t) : IsCart (ns.map g) f b t :=
  h.like (List.length_map _).symm fun p q x y x' y' h1 h2 h3 h4 => by
    rw [List.getElem?_map, h1] at h3
    rw [List.getElem?_map, h2] at h4
    rw [← Option.some.inj h3, ← Option.some.inj h4]
    exact hg x y
/-- the depths' tree is the tree -/
theorem BT.deep_ge : ∀ (t : BT) (d : Nat) (x : Nat), x ∈ t.deep d → d ≤ x ∧ x < d + t.size
  | .nil, _, _, h => by cases h
  | .node l r, d, x, h => by
    show d ≤ x ∧ x < d + (l.size + 1 + r.size)
    rcases List.mem_append.mp h with e | e
    · have := BT.deep_ge l (d + 1) x e
      omega
    · rcases List.mem_cons.mp e with e | e
      · omega
      · have := BT.deep_ge r (d + 1) x e
        omega
theorem BT.deep_cart : ∀ (t : BT) (d f : Nat) (ns : List Int), (∀ i, i < t.size → ns[f + i]? = ((t.deep d)[i]?).map fun (n : Nat) => (n : Int)) → IsCart ns f (f + t.size) t
  | .nil, _, f, _, _ => .nil f
  | .node l r, d, f, ns, h => by
    have hd : ∀ i, ((BT.node l r).deep d)[i]? = if i < l.size then (l.deep (d + 1))[i]? else if i = l.size then some d else (r.deep (d + 1))[i - l.size - 1]? := fun i => by
      show (l.deep (d + 1) ++ d :: r.deep (d + 1))[i]? = _
      rw [node_get, BT.deep_len]
    have hs : (BT.node l r).size = l.size + 1 + r.size := rfl
    have hl := BT.deep_cart l (d + 1) f ns fun i hi => by
      rw [h i (by omega), hd, if_pos hi]
    have hr := BT.deep_cart r (d + 1) (f + l.size + 1) ns fun i hi => by
      rw [show f + l.size + 1 + i = f + (l.size + 1 + i) by omega, h _ (by omega), hd, if_neg (by omega), if_neg (by omega), show l.size + 1 + i - l.size - 1 = i by omega]
    rw [show f + l.size + 1 + r.size = f + (BT.node l r).size by omega] at hr
    have val : ∀ k x, f ≤ k → k < f + (BT.node l r).size → k ≠ f + l.size → ns[k]? = some x → (d : Int) < x := fun k x k1 k2 k3 hk => by
      have e := h (k - f) (by omega)
      rw [show f + (k - f) = k by omega, hk, hd] at e
      by_cases c : k - f < l.size
      · rw [if_pos c] at e
        cases g : (l.deep (d + 1))[k - f]? with
        | none => rw [g] at e; cases e
        | some y =>
          rw [g] at e
          have := (BT.deep_ge l (d + 1) y (List.mem_of_getElem? g)).1
          have : x = (y : Int) := Option.some.inj e
          omega
      · rw [if_neg c, if_neg (by omega)] at e
        cases g : (r.deep (d + 1))[k - f - l.size - 1]? with
        | none => rw [g] at e; cases e
        | some y =>
          rw [g] at e
          have := (BT.deep_ge r (d + 1) y (List.mem_of_getElem? g)).1
          have : x = (y : Int) := Option.some.inj e
          omega
    have hv : ns[f + l.size]? = some (d : Int) := by
      rw [h _ (by omega), hd, if_neg (by omega), if_pos rfl] <;> rfl
    refine .node (m := (d : Int)) ⟨by omega, by omega, hv, fun k x k1 k2 hk => ?_, fun k x k1 k2 hk => ?_⟩ hl hr
    · by_cases c : k = f + l.size
      · rw [c, hv] at hk
        exact Int.le_of_eq (Option.some.inj hk)
      · have := val k x k1 k2 c hk
        omega
    · exact val k x k1 (by omega) (by omega) hk
theorem BT.deepI_len (t : BT) : t.deepI.length = t.size := by
  unfold BT.deepI
  rw [List.length_map, BT.deep_len]
theorem BT.deepI_cart (t : BT) : IsCart t.deepI 0 t.deepI.length t := by
  have h := BT.deep_cart t 0 0 t.deepI fun i _ => by
    unfold BT.deepI
    rw [Nat.zero_add, List.getElem?_map]
  rw [Nat.zero_add] at h
  rw [BT.deepI_len]
  exact h
/-- how places hang -/
theorem BT.links : ∀ (t : BT) (f d : Nat) (top : Option Nat) (i : Nat), i < t.size → ((t.code f top)[i]? = some top ∧ (t.deep d)[i]? = some d) ∨ ∃ j e, (t.code f top)[i]? = some (some (f + j)) ∧ j < t.size ∧ (t.deep d)[j]? = some e ∧ (t.deep d)[i]? = some (e + 1)
  | .nil, _, _, _, _, h => absurd h (Nat.not_lt_zero _)
  | .node l r, f, d, top, i, h => by
    have hs : (BT.node l r).size = l.size + 1 + r.size := rfl
    have hd : ∀ i, ((BT.node l r).deep d)[i]? = if i < l.size then (l.deep (d + 1))[i]? else if i = l.size then some d else (r.deep (d + 1))[i - l.size - 1]? := fun i => by
      show (l.deep (d + 1) ++ d :: r.deep (d + 1))[i]? = _
      rw [node_get, BT.deep_len]
    have hc : ∀ i, ((BT.node l r).code f top)[i]? = if i < l.size then (l.code f (some (f + l.size)))[i]? else if i = l.size then some top else (r.code (f + l.size + 1) (some (f + l.size)))[i - l.size - 1]? := fun i => by
      show (l.code f (some (f + l.size)) ++ top :: r.code (f + l.size + 1) (some (f + l.size)))[i]? = _
      rw [node_get, BT.code_len]
    by_cases c1 : i < l.size
    · rcases BT.links l f (d + 1) (some (f + l.size)) i c1 with ⟨a, b⟩ | ⟨j, e, a, b, c, g⟩
      · exact .inr ⟨l.size, d, by rw [hc, if_pos c1, a], by omega, by rw [hd, if_neg (by omega), if_pos rfl], by rw [hd, if_pos c1, b]⟩
      · exact .inr ⟨j, e, by rw [hc, if_pos c1, a], by omega, by rw [hd, if_pos b, c], by rw [hd, if_pos c1, g]⟩
    · by_cases c2 : i = l.size
      · exact .inl ⟨by rw [hc, if_neg c1, if_pos c2], by rw [hd, if_neg c1, if_pos c2]⟩
      · rcases BT.links r (f + l.size + 1) (d + 1) (some (f + l.size)) (i - l.size - 1) (by omega) with ⟨a, b⟩ | ⟨j, e, a, b, c, g⟩
        · exact .inr ⟨l.size, d, by rw [hc, if_neg c1, if_neg c2, a], by omega, by rw [hd, if_neg (by omega), if_pos rfl], by rw [hd, if_neg c1, if_neg c2, b]⟩
        · exact .inr ⟨l.size + 1 + j, e, by rw [hc, if_neg c1, if_neg c2, a, show f + l.size + 1 + j = f + (l.size + 1 + j) by omega], by omega, by rw [hd, if_neg (by omega), if_neg (by omega), show l.size + 1 + j - l.size - 1 = j by omega, c], by rw [hd, if_neg c1, if_neg c2, g]⟩
/-- climbing -/
def climb (xs : List V) : Nat → Nat → Nat → Option Nat
  | 0, _, deep => some deep
  | k + 1, at', deep => match xs[at']? with
    | some (.int j) => if 0 ≤ j ∧ j < (xs.length : Int) then climb xs k j.toNat (deep + 1) else none
    | _ => some deep
theorem climb_tree (t : BT) : ∀ (e k deep i : Nat), (t.deep 0)[i]? = some e → e < k → climb (t.codeV 0 none) k i deep = some (deep + e)
  | _, 0, _, _, _, h => absurd h (Nat.not_lt_zero _)
  | e, k + 1, deep, i, he, hk => by
    have hi : i < t.size := by
      have := (List.getElem?_eq_some_iff.mp he).1
      rw [BT.deep_len] at this
      exact this
    unfold climb
    have hx : (t.codeV 0 none)[i]? = ((t.code 0 none)[i]?).map oV := by
      unfold BT.codeV
      rw [List.getElem?_map]
    rcases BT.links t 0 0 none i hi with ⟨a, b⟩ | ⟨j, e', a, b, c, g⟩
    · rw [hx, a]
      rw [b] at he
      have := Option.some.inj he
      show some deep = some (deep + e)
      rw [← this, Nat.add_zero]
    · rw [hx, a, Nat.zero_add]
      show (if 0 ≤ (j : Int) ∧ (j : Int) < ((t.codeV 0 none).length : Int) then climb (t.codeV 0 none) k (j : Int).toNat (deep + 1) else none) = some (deep + e)
      rw [g] at he
      have he' := Option.some.inj he
      rw [BT.codeV_len, if_pos ⟨by omega, by omega⟩, Int.toNat_natCast, climb_tree t e' k (deep + 1) j c (by omega), ← he']
      congr 1
      omega
def depthsTo (xs : List V) : Nat → Option (List Nat)
  | 0 => some []
  | i + 1 => match depthsTo xs i with
    | none => none
    | some ds => match climb xs (xs.length + 1) i 0 with
      | none => none
      | some d => some (ds ++ [d])
theorem depthsTo_tree (t : BT) : ∀ i, i ≤ t.size → depthsTo (t.codeV 0 none) i = some ((t.deep 0).take i)
  | 0, _ => by
    rw [List.take_zero]
    rfl
  | i + 1, h => by
    have ih := depthsTo_tree t i (by omega)
    have hil : i < (t.deep 0).length := by
      rw [BT.deep_len]
      omega
    have hg : (t.deep 0)[i]? = some ((t.deep 0)[i]'hil) := List.getElem?_eq_getElem hil
    have hb := (BT.deep_ge t 0 _ (List.mem_of_getElem? hg)).2
    unfold depthsTo
    rw [ih, climb_tree t _ _ 0 i hg (by rw [BT.codeV_len]; omega), Nat.zero_add, take_more hg]
theorem depthsTo_len {xs : List V} : ∀ {i : Nat} {ds : List Nat}, depthsTo xs i = some ds → ds.length = i
  | 0, ds, h => by
    rw [← Option.some.inj h] <;> rfl
  | i + 1, ds, h => by
    unfold depthsTo at h
    cases e : depthsTo xs i with
    | none => rw [e] at h; cases h
    | some es =>
      rw [e] at h
      cases g : climb xs (xs.length + 1) i 0 with
      | none => rw [g] at h; cases h
      | some d =>
        rw [g] at h
        rw [← Option.some.inj h, List.length_append, depthsTo_len e] <;> rfl
def natI (ds : List Nat) : List Int := ds.map fun (n : Nat) => (n : Int)
theorem natI_len (ds : List Nat) : (natI ds).length = ds.length := List.length_map _
theorem natI_snoc (ds : List Nat) (e : Nat) : natI (ds ++ [e]) = natI ds ++ [(e : Int)] := by
  unfold natI
  rw [List.map_append]
  rfl
/-- what a tree is -/
def IsTree (xs : List V) : Prop := ∃ t : BT, xs = t.codeV 0 none
theorem isTree_deep {xs : List V} (h : IsTree xs) : ∃ t : BT, xs = t.codeV 0 none ∧ depthsTo xs xs.length = some (t.deep 0) ∧ IsCart (natI (t.deep 0)) 0 xs.length t := by
  obtain ⟨t, rfl⟩ := h
  refine ⟨t, rfl, ?_, ?_⟩
  · rw [BT.codeV_len, depthsTo_tree t t.size (Nat.le_refl _), List.take_of_length_le (by rw [BT.deep_len]; exact Nat.le_refl _)]
  · have := BT.deepI_cart t
    rw [BT.deepI_len] at this
    rw [BT.codeV_len]
    exact this
end VT
/-! ### how many trees there are, and their numbers -/
namespace VT
open PySem L2
def catT : List Nat := [1, 1, 2, 5, 14, 42, 132, 429, 1430, 4862, 16796, 58786, 208012, 742900, 2674440, 9694845, 35357670, 129644790, 477638700, 1767263190, 6564120420, 24466267020, 91482563640, 343059613650, 1289904147324, 4861946401452, 18367353072152, 69533550916004, 263747951750360, 1002242216651368, 3814986502092304, 14544636039226909, 55534064877048198, 212336130412243110, 812944042149730764, 3116285494907301262, 11959798385860453492, 45950804324621742364, 176733862787006701400, 680425371729975800390, 2622127042276492108820]
def cat (s : Nat) : Nat := catT.getD s 0
/-- how many trees of s places have their head ahead of h -/
def upto (s : Nat) : Nat → Nat
  | 0 => 0
  | h + 1 => upto s h + cat h * cat (s - 1 - h)
theorem cat_all : ∀ s, s < 41 → 1 ≤ s → upto s s = cat s := by decide +kernel
theorem cat_lt_all : ∀ s, s < 41 → cat s < 2 ^ 80 ∧ 0 < cat s := by decide +kernel
theorem cat_rec {s : Nat} (h1 : 1 ≤ s) (h : s ≤ 40) : upto s s = cat s := cat_all s (by omega) h1
theorem cat_lt {s : Nat} (h : s ≤ 40) : cat s < 2 ^ 80 := (cat_lt_all s (by omega)).1
theorem cat_pos {s : Nat} (h : s ≤ 40) : 0 < cat s := (cat_lt_all s (by omega)).2
theorem upto_mono (s : Nat) {a b : Nat} (h : a ≤ b) : upto s a ≤ upto s b := by
  induction h with
  | refl => exact Nat.le_refl _
  | step _ ih => exact Nat.le_trans ih (Nat.le_add_right _ _)
def BT.rank : BT → Nat
  | .nil => 0
  | .node l r => upto (l.size + 1 + r.size) l.size + l.rank * cat r.size + r.rank
theorem two_lt {a b m n : Nat} (h1 : a < m) (h2 : b < n) : a * n + b < m * n := by
  have : (a + 1) * n ≤ m * n := Nat.mul_le_mul_right _ h1
  rw [Nat.succ_mul] at this
  omega
theorem BT.rank_lt : ∀ (t : BT), t.size ≤ 40 → t.rank < cat t.size
  | .nil, _ => by decide
  | .node l r, h => by
    have hs : (BT.node l r).size = l.size + 1 + r.size := rfl
    have hl := BT.rank_lt l (by omega)
    have hr := BT.rank_lt r (by omega)
    have h1 := two_lt hl hr
    have h2 : upto (l.size + 1 + r.size) (l.size + 1) = upto (l.size + 1 + r.size) l.size + cat l.size * cat (l.size + 1 + r.size - 1 - l.size) := rfl
    rw [show l.size + 1 + r.size - 1 - l.size = r.size by omega] at h2
    have h3 := upto_mono (l.size + 1 + r.size) (a := l.size + 1) (b := l.size + 1 + r.size) (by omega)
    rw [cat_rec (by omega) (by omega)] at h3
    show upto (l.size + 1 + r.size) l.size + l.rank * cat r.size + r.rank < cat (l.size + 1 + r.size)
    omega
theorem upto_at {s : Nat} : ∀ (h n : Nat), n < upto s h → ∃ k, k < h ∧ upto s k ≤ n ∧ n < upto s (k + 1)
  | 0, n, hn => absurd hn (Nat.not_lt_zero _)
  | h + 1, n, hn => by
    by_cases c : n < upto s h
    · obtain ⟨k, h1, h2, h3⟩ := upto_at h n c
      exact ⟨k, by omega, h2, h3⟩
    · exact ⟨h, Nat.lt_succ_self _, by omega, hn⟩
theorem BT.unrank : ∀ (m s n : Nat), s ≤ m → s ≤ 40 → n < cat s → ∃ t : BT, t.size = s ∧ t.rank = n
  | _, 0, n, _, _, hn => by
    have : cat 0 = 1 := by decide
    rw [this] at hn
    refine ⟨.nil, rfl, ?_⟩
    show 0 = n
    omega
  | 0, s + 1, _, h, _, _ => absurd h (by omega)
  | m + 1, s + 1, n, hm, hs, hn => by
    rw [← cat_rec (by omega) hs] at hn
    obtain ⟨k, k1, k2, k3⟩ := upto_at (s + 1) n hn
    have k4 : upto (s + 1) (k + 1) = upto (s + 1) k + cat k * cat (s - k) := by
      show upto (s + 1) k + cat k * cat (s + 1 - 1 - k) = _
      rw [show s + 1 - 1 - k = s - k by omega]
    have hp := cat_pos (s := s - k) (by omega)
    obtain ⟨l, hl1, hl2⟩ := BT.unrank m k ((n - upto (s + 1) k) / cat (s - k)) (by omega) (by omega) (by
      rw [Nat.div_lt_iff_lt_mul hp]
      omega)
    obtain ⟨r, hr1, hr2⟩ := BT.unrank m (s - k) ((n - upto (s + 1) k) % cat (s - k)) (by omega) (by omega) (Nat.mod_lt _ hp)
    refine ⟨.node l r, by show l.size + 1 + r.size = s + 1; omega, ?_⟩
    show upto (l.size + 1 + r.size) l.size + l.rank * cat r.size + r.rank = n
    rw [hl1, hl2, hr1, hr2, show k + 1 + (s - k) = s + 1 by omega]
    have e := Nat.div_add_mod (n - upto (s + 1) k) (cat (s - k))
    rw [Nat.mul_comm] at e
    omega
theorem two_inj {a b a' b' n : Nat} (h1 : b < n) (h2 : b' < n) (e : a * n + b = a' * n + b') : a = a' ∧ b = b' := by
  have d : a = a' := by
    have x : (a * n + b) / n = a := by
      rw [Nat.mul_comm, Nat.mul_add_div (by omega), Nat.div_eq_of_lt h1, Nat.add_zero]
    have y : (a' * n + b') / n = a' := by
      rw [Nat.mul_comm, Nat.mul_add_div (by omega), Nat.div_eq_of_lt h2, Nat.add_zero]
    rw [← x, ← y, e]
  subst d
  exact ⟨rfl, by omega⟩
theorem BT.rank_inj : ∀ (t u : BT), t.size = u.size → t.size ≤ 40 → t.rank = u.rank → t = u
  | .nil, .nil, _, _, _ => rfl
  | .nil, .node l r, h, _, _ => by
    have : (0 : Nat) = l.size + 1 + r.size := h
    omega
  | .node l r, .nil, h, _, _ => by
    have : l.size + 1 + r.size = 0 := h
    omega
  | .node l r, .node l' r', h, hs, e => by
    have h' : l.size + 1 + r.size = l'.size + 1 + r'.size := h
    have hs' : l.size + 1 + r.size ≤ 40 := hs
    have e' : upto (l.size + 1 + r.size) l.size + l.rank * cat r.size + r.rank = upto (l'.size + 1 + r'.size) l'.size + l'.rank * cat r'.size + r'.rank := e
    have b1 := two_lt (BT.rank_lt l (by omega)) (BT.rank_lt r (by omega))
    have b2 := two_lt (BT.rank_lt l' (by omega)) (BT.rank_lt r' (by omega))
    have n1 : upto (l.size + 1 + r.size) (l.size + 1) = upto (l.size + 1 + r.size) l.size + cat l.size * cat r.size := by
      show upto (l.size + 1 + r.size) l.size + cat l.size * cat (l.size + 1 + r.size - 1 - l.size) = _
      rw [show l.size + 1 + r.size - 1 - l.size = r.size by omega]
    have n2 : upto (l'.size + 1 + r'.size) (l'.size + 1) = upto (l'.size + 1 + r'.size) l'.size + cat l'.size * cat r'.size := by
      show upto (l'.size + 1 + r'.size) l'.size + cat l'.size * cat (l'.size + 1 + r'.size - 1 - l'.size) = _
      rw [show l'.size + 1 + r'.size - 1 - l'.size = r'.size by omega]
    rw [← h'] at e' n2
    have el : l.size = l'.size := by
      rcases Nat.lt_trichotomy l.size l'.size with c | c | c
      · have := upto_mono (l.size + 1 + r.size) (a := l.size + 1) (b := l'.size) c
        omega
      · exact c
      · have := upto_mono (l.size + 1 + r.size) (a := l'.size + 1) (b := l.size) c
        omega
    have er : r.size = r'.size := by omega
    rw [el, er] at e'
    have lt1 := BT.rank_lt r (by omega)
    have lt2 := BT.rank_lt r' (by omega)
    rw [er] at lt1
    obtain ⟨x, y⟩ := two_inj (a := l.rank) (a' := l'.rank) lt1 lt2 (by omega)
    rw [BT.rank_inj l l' el (by omega) x, BT.rank_inj r r' er (by omega) y]
def cats (n : Nat) : List Int := (List.range n).map fun i => (cat i : Int)
theorem cats_len (n : Nat) : (cats n).length = n := by
  unfold cats
  rw [List.length_map, List.length_range]
theorem cats_more (n : Nat) : cats (n + 1) = cats n ++ [(cat n : Int)] := by
  unfold cats
  rw [List.range_succ, List.map_append]
  rfl
theorem cats_at {n i : Nat} (h : i < n) : ((cats n).map V.int)[i]? = some (.int (cat i : Int)) := by
  unfold cats
  rw [List.getElem?_map, List.getElem?_map, List.getElem?_range h]
  rfl
/-- the products whose sum upto is -/
def prods (s i : Nat) : List Int := (List.range i).map fun h => (cat h : Int) * (cat (s - 1 - h) : Int)
theorem prods_more (s i : Nat) : prods s (i + 1) = prods s i ++ [(cat i : Int) * (cat (s - 1 - i) : Int)] := by
  unfold prods
  rw [List.range_succ, List.map_append]
  rfl
theorem prods_len (s i : Nat) : (prods s i).length = i := by
  unfold prods
  rw [List.length_map, List.length_range]
theorem prods_sum (s : Nat) : ∀ i, (prods s i).sum = (upto s i : Int)
  | 0 => rfl
  | i + 1 => by
    rw [prods_more, List.sum_append, prods_sum s i]
    show (upto s i : Int) + ((cat i : Int) * (cat (s - 1 - i) : Int) + 0) = ((upto s i + cat i * cat (s - 1 - i) : Nat) : Int)
    rw [Int.natCast_add, Int.natCast_mul, Int.add_zero]
theorem cmul_cat {i j : Nat} (h1 : i ≤ 40) (h2 : j ≤ 40) : CMulW (cat i : Int) (cat j : Int) := wide_mul (a := 80) (b := 80) (by have := cat_lt h1; omega) (by have := cat_lt h2; omega) (by decide) (by decide) (by decide)
/-- a stretch of a list that is a tree's -/
def Sub (xs : List V) (t : BT) (f : Nat) (top : Option Nat) : Prop := ∀ i, i < t.size → xs[f + i]? = ((t.code f top)[i]?).map oV
theorem Sub.whole (t : BT) : Sub (t.codeV 0 none) t 0 none := fun i _ => by
  unfold BT.codeV
  rw [Nat.zero_add, List.getElem?_map]
theorem BT.code_at (l r : BT) (f : Nat) (top : Option Nat) (i : Nat) : ((BT.node l r).code f top)[i]? = if i < l.size then (l.code f (some (f + l.size)))[i]? else if i = l.size then some top else (r.code (f + l.size + 1) (some (f + l.size)))[i - l.size - 1]? := by
  show (l.code f (some (f + l.size)) ++ top :: r.code (f + l.size + 1) (some (f + l.size)))[i]? = _
  rw [node_get, BT.code_len]
theorem Sub.left {xs : List V} {l r : BT} {f : Nat} {top : Option Nat} (h : Sub xs (.node l r) f top) : Sub xs l f (some (f + l.size)) := fun i hi => by
  rw [h i (by show i < l.size + 1 + r.size; omega), BT.code_at, if_pos hi]
theorem Sub.right {xs : List V} {l r : BT} {f : Nat} {top : Option Nat} (h : Sub xs (.node l r) f top) : Sub xs r (f + l.size + 1) (some (f + l.size)) := fun i hi => by
  have := h (l.size + 1 + i) (by show l.size + 1 + i < l.size + 1 + r.size; omega)
  rw [BT.code_at, if_neg (by omega), if_neg (by omega), show l.size + 1 + i - l.size - 1 = i by omega] at this
  rw [← this, show f + l.size + 1 + i = f + (l.size + 1 + i) by omega]
theorem Sub.head {xs : List V} {l r : BT} {f : Nat} {top : Option Nat} (h : Sub xs (.node l r) f top) : xs[f + l.size]? = some (oV top) := by
  have := h l.size (by show l.size < l.size + 1 + r.size; omega)
  rw [BT.code_at, if_neg (by omega), if_pos rfl] at this
  exact this
theorem BT.code_in : ∀ (t : BT) (f h i : Nat), i < t.size → ∃ q, (t.code f (some h))[i]? = some (some q) ∧ (q = h ∨ f ≤ q ∧ q < f + t.size)
  | .nil, _, _, _, hi => absurd hi (Nat.not_lt_zero _)
  | .node l r, f, h, i, hi => by
    have hs : (BT.node l r).size = l.size + 1 + r.size := rfl
    rw [BT.code_at]
    by_cases c : i < l.size
    · rw [if_pos c]
      obtain ⟨q, e, g⟩ := BT.code_in l f (f + l.size) i c
      exact ⟨q, e, .inr (by omega)⟩
    · rw [if_neg c]
      by_cases c2 : i = l.size
      · rw [if_pos c2]
        exact ⟨h, rfl, .inl rfl⟩
      · rw [if_neg c2]
        obtain ⟨q, e, g⟩ := BT.code_in r (f + l.size + 1) (f + l.size) (i - l.size - 1) (by omega)
        exact ⟨q, e, .inr (by omega)⟩
theorem Sub.before {xs : List V} {l r : BT} {f : Nat} {top : Option Nat} (h : Sub xs (.node l r) f top) {i : Nat} (hi : i < l.size) : ∃ q : Nat, xs[f + i]? = some (.int (q : Int)) ∧ f ≤ q ∧ q < f + (BT.node l r).size := by
  have hs : (BT.node l r).size = l.size + 1 + r.size := rfl
  obtain ⟨q, e, g⟩ := BT.code_in l f (f + l.size) i hi
  refine ⟨q, ?_, by omega, by omega⟩
  rw [h.left i hi, e]
  rfl
/-- a top that is not in the stretch -/
def Out (top : Option Nat) (f b : Nat) : Prop := ∀ q, top = some q → q < f ∨ b ≤ q
theorem Out.none (f b : Nat) : Out none f b := fun q h => by cases h
theorem Out.left (f h : Nat) : Out (some h) f h := fun q e => by
  rw [← Option.some.inj e]
  exact .inr (Nat.le_refl _)
theorem Out.right (h b : Nat) : Out (some h) (h + 1) b := fun q e => by
  rw [← Option.some.inj e]
  exact .inl (Nat.lt_succ_self _)
end VT
local macro_rules | `(tactic| walk_at "ne") => `(tactic| first | assumption | exact Ne.symm (by assumption) | ((refine' VT.ne_new ?h1 ?h2); (case h1 => assumption); (case h2 => walk_at "hp")) | ((refine' VT.ne_new' ?h1 ?h2); (case h1 => assumption); (case h2 => walk_at "hp")))
local macro_rules | `(tactic| walk_at "hp") => `(tactic| first | assumption | exact L2.upd_same | ((refine' VT.up_get ?n ?h); (case n => walk_at "ne"); (case h => walk_at "hp")) | ((refine' VT.Same.get ?e ?h); (case e => assumption); (case h => walk_at "hp")) | ((refine' VT.But.get ?e ?n ?h); (case e => assumption); (case n => walk_at "ne"); (case h => walk_at "hp")))
local macro_rules | `(tactic| walk_at "fr") => `(tactic| first | assumption | ((refine' L2.Same.free ?e ?h); (case h => assumption); (case e => walk_at "sm")))
local macro_rules | `(tactic| walk_at "sm") => `(tactic| first | assumption | exact L2.Same.refl _ | ((refine' VT.same_new2 ?e ?h); (case h => assumption); (case e => walk_at "sm")) | ((refine' VT.same_mut ?e ?h); (case h => walk_at "fr"); (case e => walk_at "sm")) | ((refine' L2.Same.trans ?a ?b); (case b => assumption); (case a => walk_at "sm")) | ((refine' VT.same_but ?a ?b ?c); (case b => assumption); (case c => walk_at "fr"); (case a => walk_at "sm")))
local macro_rules | `(tactic| walk_at "sq") => `(tactic| first | assumption | ((refine' VT.SqL.lst ?h); (case h => walk_at "hp")) | ((refine' L2.Same.seq ?e ?h); (case h => assumption); (case e => walk_at "sm")))
local macro_rules | `(tactic| walk_at "sqT") => `(tactic| first | assumption | ((refine' VT.SqT.tup ?h); (case h => walk_at "hp")) | ((refine' VT.same_seqT ?e ?h); (case h => assumption); (case e => walk_at "sm")))
local macro_rules | `(tactic| walk_at "cond") => `(tactic| first | omega | assumption | (show (0 : Int) < _; omega) | exact ⟨by omega, by omega, by omega, by omega⟩ | exact ⟨by decide, by decide⟩ | exact ⟨by omega, by omega⟩ | exact Or.inl ⟨by omega, by omega⟩ | exact Or.inr ⟨by omega, by omega⟩ | exact ⟨by omega, by omega, by omega⟩ | decide)
local macro_rules | `(tactic| walk_at "go1") => `(tactic| first
  | with_reducible refine' VT.r_seq ?_ | with_reducible refine' VT.r_asg ?_ | with_reducible refine' VT.r_name ?_ | with_reducible refine' VT.r_sub ?_ | ((with_reducible refine' VT.r_var ?h ?_); (case h => exact rfl)) | with_reducible refine' VT.r_c ?_
  | with_reducible refine' VT.r_op ?_ | with_reducible refine' VT.r_I0 ?_ | with_reducible refine' VT.r_eqI ?_ | with_reducible refine' VT.r_neI ?_ | with_reducible refine' VT.r_eqB ?_ | with_reducible refine' VT.r_neB ?_
  | with_reducible refine' VT.r_test ?_ | with_reducible refine' VT.r_B ?_ | with_reducible refine' VT.r_bl ?_ | with_reducible refine' VT.r_cons ?_ | with_reducible refine' VT.r_nil ?_ | with_reducible refine' VT.r_CB ?_ | with_reducible refine' VT.r_call ?_
  | ((with_reducible refine' VT.r_I ?c ?_); (case c => walk_at "cond")) | ((with_reducible refine' VT.r_lenI ?s ?_); (case s => walk_at "sq")) | ((with_reducible refine' VT.r_len ?s ?_); (case s => walk_at "sq")) | ((with_reducible refine' VT.r_lenT ?s ?_); (case s => walk_at "sqT")) | ((with_reducible refine' VT.r_ixL ?s ?a ?_); (case s => walk_at "sq"); (case a => walk_at "at")) | ((with_reducible refine' VT.r_ixT ?s ?a ?_); (case s => walk_at "sqT"); (case a => walk_at "at"))
  | with_reducible refine' VT.r_for1 ?_ | ((with_reducible refine' VT.r_rng1 ?c ?_); (case c => walk_at "cond")) | with_reducible refine' VT.r_for2 ?_ | ((with_reducible refine' VT.r_rng2 ?c ?_); (case c => walk_at "cond")) | with_reducible refine' VT.r_forL ?_ | ((with_reducible refine' VT.r_itL ?s ?_); (case s => walk_at "sq")) | with_reducible refine' VT.r_forC ?_ | with_reducible refine' VT.r_rg1 ?_ | with_reducible refine' VT.r_rg2 ?_ | with_reducible refine' VT.r_ij ?_ | ((with_reducible refine' VT.r_rngC ?c ?_); (case c => walk_at "cond")) | with_reducible refine' VT.r_listRev ?_ | ((with_reducible refine' VT.r_revOf ?s ?_); (case s => walk_at "sq")) | with_reducible refine' VT.r_forT ?_ | ((with_reducible refine' VT.r_itT ?s ?_); (case s => walk_at "sqT"))
  | with_reducible refine' VT.r_lc1 ?_ | with_reducible refine' VT.r_lc2 ?_ | with_reducible refine' VT.r_lcL ?_ | with_reducible refine' VT.r_yes ?_
  | with_reducible refine' VT.r_drop ?_ | with_reducible refine' VT.r_ret ?_ | with_reducible refine' VT.r_retN ?_ | with_reducible refine' VT.r_if ?_ | with_reducible refine' VT.r_next ?_ | with_reducible refine' VT.r_chain ?_ | with_reducible refine' VT.r_chain3 ?_ | with_reducible refine' VT.r_sFld ?_ | with_reducible refine' VT.r_not ?_
  | with_reducible refine' VT.r_andV ?_ | with_reducible refine' VT.r_orV ?_ | with_reducible refine' VT.r_notV ?_ | with_reducible refine' VT.r_ifE ?_ | with_reducible refine' VT.r_lst ?_ | with_reducible refine' VT.r_tup ?_ | with_reducible refine' VT.r_sl ?_ | with_reducible refine' VT.r_part ?_ | with_reducible refine' VT.r_int ?_ | with_reducible refine' VT.r_noPart ?_
  | with_reducible refine' VT.r_bm ?_ | with_reducible refine' VT.r_bm0 ?_ | with_reducible refine' VT.r_fld ?_ | with_reducible refine' VT.r_un ?_ | with_reducible refine' VT.r_U ?_ | with_reducible refine' VT.r_isN ?_ | with_reducible refine' VT.r_notN ?_ | with_reducible refine' VT.r_meth ?_ | with_reducible refine' VT.r_make ?_
  | ((with_reducible refine' VT.r_tyL ?s ?_); (case s => walk_at "sq")) | ((with_reducible refine' VT.r_app ?h ?z ?_); (case h => walk_at "hp"); (case z => walk_at "len")) | ((with_reducible refine' VT.r_fldR ?h ?c ?n ?_); (case h => walk_at "hp"); (case c => assumption); (case n => assumption)) | ((with_reducible refine' VT.r_methR ?h ?m ?_); (case h => walk_at "hp"); (case m => decide +kernel)) | ((with_reducible refine' VT.r_new ?z ?_); (case z => exact Nat.le_of_ble_eq_true rfl)))
local macro_rules | `(tactic| walk_at "andor") => `(tactic| first | with_reducible refine' VT.r_and ?_ | with_reducible refine' VT.r_or ?_)
local macro_rules | `(tactic| walk_at "go") => `(tactic| repeat walk_at "go1")
local macro_rules | `(tactic| walk_at "at") => `(tactic| first | assumption | exact L2.atI_nat (by assumption) | exact VT.r_at (by assumption) (by assumption) | exact VT.r_at (by omega) (by assumption) | exact VT.r_at rfl (by assumption) | exact VT.r_at (j := 0) rfl rfl | exact VT.r_at (j := 1) rfl rfl | exact VT.r_at (j := 2) rfl rfl)
local macro_rules | `(tactic| walk_at "len") => `(tactic| (simp only [List.length_map, List.length_append, List.length_cons, List.length_nil, List.length_take, List.length_drop, List.length_replicate]; omega))
local macro_rules | `(tactic| walk_at "and") => `(tactic| ((with_reducible refine' VT.r_andD ?a ?b ?_); (case a => intro Z h; walk_at "go"; exact h); (case b => intro Z h; walk_at "go"; exact h)))
local macro_rules | `(tactic| walk_at "or") => `(tactic| ((with_reducible refine' VT.r_orD ?a ?b ?_); (case a => intro Z h; walk_at "go"; exact h); (case b => intro Z h; walk_at "go"; exact h)))
local macro_rules | `(tactic| walk_at "and") => `(tactic| ((with_reducible refine' VT.r_andD ?a ?b ?_); (case a => (intro Z h); (walk_at "go"); exact h); (case b => (intro Z h); (walk_at "go"); exact h)))
local macro_rules | `(tactic| walk_at "or") => `(tactic| ((with_reducible refine' VT.r_orD ?a ?b ?_); (case a => (intro Z h); (walk_at "go"); exact h); (case b => (intro Z h); (walk_at "go"); exact h)))
namespace VT
open PySem PySem.Spec PyProof.Rows L2
def top (i : Nat) : Stmt := PySem.Challenge.pw_valleytree_k08_all_trees_in_their_order.main.body.getD i (.Pass ⟨0, 0, 0, 0⟩)
abbrev s_over : Stmt := top 6
abbrev s_tree_over : Stmt := top 7
abbrev s_depths : Stmt := top 8
abbrev s_is_tree : Stmt := top 9
abbrev s_shapes : Stmt := top 10
abbrev s_many_trees : Stmt := top 11
abbrev s_build : Stmt := top 12
abbrev s_tree_at : Stmt := top 13
abbrev s_ask_tree : Stmt := top 14
abbrev s_head_of : Stmt := top 15
abbrev s_number_over : Stmt := top 16
abbrev s_tree_number : Stmt := top 17
abbrev s__law_cell_at : Stmt := top 19
abbrev s__law_whole : Stmt := top 20
abbrev s__law_places : Stmt := top 21
abbrev s__law_moved : Stmt := top 22
abbrev s__law_trees : Stmt := top 23
abbrev s_law : Stmt := top 24
structure Txt (K : PySem.W.Frag) (mg : Str → Option Value) (C : Addr) : Prop where
  b_bool : mg "bool" = none
  b_int : mg "int" = none
  b_isinstance : mg "isinstance" = none
  b_len : mg "len" = none
  b_list : mg "list" = none
  b_min : mg "min" = none
  b_range : mg "range" = none
  b_sum : mg "sum" = none
  g_MOST : ∃ u, mg "MOST" = some u ∧ RelV (.int 40) u
section
variable {P : Program} {w : World} {K : PySem.W.Frag} {mg : Str → Option Value} {base : Heap} {C : Addr}
theorem sc_over : FnScope ["numbers", "first", "behind", "top", "found", "head"] ["numbers", "first", "behind", "top", "found"] (defScope s_over) := ⟨rfl, rfl, rfl, by decide +kernel, rfl, by decide +kernel, by decide +kernel⟩
def sp_over (K : PySem.W.Frag) (_ : Addr) (n : Nat) : Sp := fun vs H Q _ => ∃ (a f : Addr) (ns : List Int) (i j : Nat) (top : Option Nat) (xs : List V) (t : BT), vs = [.ref a, .int i, .int j, oV top, .ref f] ∧ SqL K H a (ns.map V.int) ∧ H f = some (.lst xs) ∧ a ≠ f ∧ xs.length = ns.length ∧ ns.length ≤ 63 ∧ j ≤ ns.length ∧ IsCart ns i j t ∧ j - i < n ∧
  ∀ H', But f H H' → H' f = some (.lst (splice xs i (t.codeV i top))) → Q .non H'
theorem ok_over {f : Addr} {fd : FuncData} {n : Nat} (F : Fun K "over" "over" s_over f fd) (T : Txt K mg C) (c_over : C8.Cal P w K mg base (0 + n) "over" (sp_over K C n) []) : FnOk P w K mg base CX0 (0 + n + 1) f fd ["numbers", "first", "behind", "top", "found"] (sp_over K C (n + 1)) := by
  refine F.ok sc_over (fun vs H Q E h => ?_) (fun cdv A outer s H vs Q E hr h => ?_)
  · obtain ⟨a, f, ns, i, j, top, xs, t, rfl, hS, hF, naf, hxl, hn, hj, hC, hlt, q⟩ := h
    rfl
  · obtain ⟨a, f, ns, i, j, top, xs, t, rfl, hS, hF, naf, hxl, hn, hj, hC, hlt, q⟩ := h
    refine ⟨_, (pss_one (ps_if (pt_cmpR op_lt (pv 1) (pv 2) (nomark _)) (pss_cons (ps_set (i := 5) sc_over.nd rfl (by first | exact Or.inl rfl | exact Or.inr rfl) (pe_bm PySem.F.plainAttrs_list PySem.F.slot_list_index PySem.F.type_list_index mt_index3 (pv 0) (pa_cons (pe_callB (cr_min rfl) (by rfl) T.b_min (by decide +kernel) (pa_cons (pe_slice sl_list (pv 0) (po_some (pv 1)) (po_some (pv 2))) pa_nil)) (pa_cons (pv 1) pa_nil))))
      (pss_cons (ps_asg (pv 3) (pg_sub (pv 4) (pv 5) set_list))
      (pss_cons (ps_expr (C8.pe_c c_over hr (by omega) rfl (pa_cons (pv 0) (pa_cons (pv 1) (pa_cons (pv 5) (pa_cons (pv 5) (pa_cons (pv 4) pa_nil)))))))
      (pss_one (ps_expr (C8.pe_c c_over hr (by omega) rfl (pa_cons (pv 0) (pa_cons (pe_op op_add (pv 5) pe_int) (pa_cons (pv 2) (pa_cons (pv 5) (pa_cons (pv 4) pa_nil))))))))))) pss_nil)), ?_⟩
    have hsz := hC.size
    walk_at "go"
    refine brD (fun c => ?_) (fun c => ?_)
    · walk_at "go"
      refine r_slL hS fun s ns' => ?_
      rw [cut_midI (by omega) (by omega) (by omega) (by omega), show ((i : Nat) : Int).toNat = i by omega, show ((j : Nat) : Int).toNat = j by omega]
      have sA := same_new ns' (.lst (((ns.drop i).take (j - i)).map V.int))
      have hS1 := sA.seq hS
      have hF1 := sA _ _ hF
      have hX := @upd_same H s (.lst (((ns.drop i).take (j - i)).map V.int))
      generalize upd H s (.lst (((ns.drop i).take (j - i)).map V.int)) = H1 at sA hS1 hF1 hX
      walk_at "go"
      refine r_min (VT.SqL.lst hX) (by rw [List.length_take, List.length_drop]; omega) fun m hm hle => ?_
      obtain ⟨h, hL, hno⟩ := least_of_min hm hle
      walk_at "go"
      have h1 := hL.lo
      have h2 := hL.hi
      refine r_index3 hS1 (by omega) (by omega) hL.val (fun l l1 l2 => hno l (by omega) l2) ?_
      walk_at "go"
      refine r_setV hF1 (by omega) (by omega) ?_
      rw [show ((h : Nat) : Int).toNat = h by omega]
      cases hC with
      | nil => omega
      | @node _ _ h' m' l r hm' hl hr =>
        obtain ⟨_, e⟩ := hm'.uniq hL
        subst e
        have hls := hl.size
        have hrs := hr.size
        have b1 : But f H (upd H1 f (.lst (xs.set h' (oV top)))) := (But.of sA).up
        have hS2 := b1.seq naf hS
        have hF2 := @upd_same H1 f (.lst (xs.set h' (oV top)))
        generalize upd H1 f (.lst (xs.set h' (oV top))) = H2 at b1 hS2 hF2
        walk_at "go"
        refine ⟨a, f, ns, i, h', some h', _, l, rfl, hS2, hF2, naf, by rw [List.length_set]; exact hxl, hn, by omega, hl, by omega, fun H3 b3 hF3 => ?_⟩
        walk_at "go"
        have b13 := b1.trans b3
        refine ⟨a, f, ns, h' + 1, j, some h', _, r, rfl, b13.seq naf hS, hF3, naf, by rw [splice_len (by rw [List.length_set, BT.codeV_len]; omega), List.length_set]; exact hxl, hn, hj, hr, by omega, fun H4 b4 hF4 => ?_⟩
        refine q H4 (b13.trans b4) ?_
        have e := splice_tree (xs := xs) (f := i) (l := l) (r := r) (top := top) (by show i + (l.size + 1 + r.size) ≤ _; omega)
        rw [hls] at e
        rw [hF4, e]
    · walk_at "go"
      cases hC with
      | nil =>
        refine q H (But.of (Same.refl _)) ?_
        show H f = some (.lst (splice xs i []))
        rw [splice_nil]
        exact hF
      | node hm' hl hr =>
        have h1 := hm'.lo
        have h2 := hm'.hi
        omega
theorem no_over {K : PySem.W.Frag} {C : Addr} : ∀ vs H Q E, ¬ sp_over K C 0 vs H Q E := by
  rintro vs H Q E ⟨a, f, ns, i, j, top, xs, t, rfl, hS, hF, naf, hxl, hn, hj, hC, hlt, q⟩
  omega
theorem sc_tree_over : FnScope ["numbers", "found"] ["numbers"] (defScope s_tree_over) := ⟨rfl, rfl, rfl, by decide +kernel, rfl, by decide +kernel, by decide +kernel⟩
def sp_tree_over (K : PySem.W.Frag) (_ : Addr) : Sp := fun vs H Q _ => ∃ (a : Addr) (ns : List Int) (t : BT), vs = [.ref a] ∧ H a = some (.lst (ns.map V.int)) ∧ ns.length ≤ 40 ∧ IsCart ns 0 ns.length t ∧
  ∀ (x : Addr) (H' : Hp), H x = none → Same H H' → H' x = some (.lst (t.codeV 0 none)) → Q (.ref x) H'
theorem ok_tree_over {f : Addr} {fd : FuncData} (F : Fun K "tree_over" "tree_over" s_tree_over f fd) (T : Txt K mg C) (c_over : C8.Cal P w K mg base 42 "over" (sp_over K C 42) []) : FnOk P w K mg base CX0 43 f fd ["numbers"] (sp_tree_over K C) := by
  refine F.ok sc_tree_over (fun vs H Q E h => ?_) (fun cdv A outer s H vs Q E hr h => ?_)
  · obtain ⟨a, ns, t, rfl, hS, hn, hC, q⟩ := h
    rfl
  · obtain ⟨a, ns, t, rfl, hS, hn, hC, q⟩ := h
    refine ⟨_, (pss_cons (ps_set (i := 1) sc_tree_over.nd rfl (by first | exact Or.inl rfl | exact Or.inr rfl) (pe_op op_rep (pe_lst (pa_cons pe_non pa_nil)) (pe_callB c_len (by rfl) T.b_len PySem.boot_len (pa_cons (pv 0) pa_nil))))
      (pss_cons (ps_expr (C8.pe_c c_over hr (by decide) rfl (pa_cons (pv 0) (pa_cons pe_int (pa_cons (pe_callB c_len (by rfl) T.b_len PySem.boot_len (pa_cons (pv 0) pa_nil)) (pa_cons pe_non (pa_cons (pv 1) pa_nil)))))))
      (pss_one (ps_ret (pv 1))))), ?_⟩
    walk_at "go"
    intro e ne
    have sB := same_new ne (.lst [V.non])
    have hE := @upd_same H e (.lst [V.non])
    have hS1 := sB _ _ hS
    generalize upd H e (.lst [V.non]) = H1 at sB hE hS1
    walk_at "go"
    refine r_rep hE (by omega) (by omega) fun f nf => ?_
    have sC := same_new nf (.lst (List.replicate (ns.length : Int).toNat V.non))
    have naf : a ≠ f := ne_of_none hS1 nf
    have fr := sB.free nf
    have hF := @upd_same H1 f (.lst (List.replicate (ns.length : Int).toNat V.non))
    have hS2 := sC _ _ hS1
    have s2 := sB.trans sC
    generalize upd H1 f (.lst (List.replicate (ns.length : Int).toNat V.non)) = H2 at sC hF hS2 s2
    walk_at "go"
    refine ⟨a, f, ns, 0, ns.length, none, _, t, rfl, VT.SqL.lst hS2, hF, naf, by rw [List.length_replicate]; omega, by omega, Nat.le_refl _, hC, by omega, fun H3 b3 hF3 => ?_⟩
    walk_at "go"
    refine q f H3 fr (same_but s2 b3 fr) ?_
    have hs := hC.size
    rw [hF3, splice_all (by rw [BT.codeV_len, List.length_replicate]; omega)]
theorem sc_depths : FnScope ["some", "found", "place", "at", "deep"] ["some"] (defScope s_depths) := ⟨rfl, rfl, rfl, by decide +kernel, rfl, by decide +kernel, by decide +kernel⟩
def sp_depths (_ : PySem.W.Frag) (_ : Addr) : Sp := fun vs H Q _ => ∃ (a : Addr) (xs : List V), vs = [.ref a] ∧ H a = some (.lst xs) ∧ xs.all okV = true ∧ xs.length ≤ 63 ∧ (depthsTo xs xs.length = none → ∀ H', Same H H' → Q .non H') ∧
  ∀ (ds : List Nat) (x : Addr) (H' : Hp), depthsTo xs xs.length = some ds → H x = none → Same H H' → H' x = some (.lst ((natI ds).map V.int)) → Q (.ref x) H'
theorem ok_depths {f : Addr} {fd : FuncData} (F : Fun K "depths" "depths" s_depths f fd) (T : Txt K mg C)  : FnOk P w K mg base CX0 1 f fd ["some"] (sp_depths K C) := by
  refine F.ok sc_depths (fun vs H Q E h => ?_) (fun cdv A outer s H vs Q E hr h => ?_)
  · obtain ⟨a, xs, rfl, hS, hok, hn, q0, q1⟩ := h
    rfl
  · obtain ⟨a, xs, rfl, hS, hok, hn, q0, q1⟩ := h
    refine ⟨_, (pss_cons (ps_set (i := 1) sc_depths.nd rfl (by first | exact Or.inl rfl | exact Or.inr rfl) (pe_lst pa_nil))
      (pss_cons (ps_for PassesOwn.never rfl (pi_range1 (by rfl) T.b_range (pa_cons (pe_callB c_len (by rfl) T.b_len PySem.boot_len (pa_cons (pv 0) pa_nil)) pa_nil)) (pg_name (i := 2) sc_depths.nd rfl (by first | exact Or.inl rfl | exact Or.inr rfl)) (pss_cons (ps_set (i := 3) sc_depths.nd rfl (by first | exact Or.inl rfl | exact Or.inr rfl) (pv 2))
      (pss_cons (ps_set (i := 4) sc_depths.nd rfl (by first | exact Or.inl rfl | exact Or.inr rfl) pe_int)
      (C8.pss_cut (ps_while PassesOwn.never (PW.pt (pw_and (pt_cmpR o_notN (pe_ix ix_list (pv 0) (pv 3) (fun _ _ => rfl)) pe_non (nomark _)) (pw_and1 (pt_cmpR op_le (pv 4) (pe_callB c_len (by rfl) T.b_len PySem.boot_len (pa_cons (pv 0) pa_nil)) (nomark _))))) (pss_cons (ps_if (pt_not (pt_chain op_le op_lt pe_int (pe_ix ix_list (pv 0) (pv 3) (fun _ _ => rfl)) (pe_callB c_len (by rfl) T.b_len PySem.boot_len (pa_cons (pv 0) pa_nil)))) (pss_one (ps_ret pe_non)) pss_nil)
      (pss_cons (ps_set (i := 3) sc_depths.nd rfl (by first | exact Or.inl rfl | exact Or.inr rfl) (pe_ix ix_list (pv 0) (pv 3) (fun _ _ => rfl)))
      (pss_one (ps_set (i := 4) sc_depths.nd rfl (by first | exact Or.inl rfl | exact Or.inr rfl) (pe_op op_add (pv 4) pe_int))))))
      (pss_one (ps_expr (pe_bm PySem.F.plainAttrs_list PySem.F.slot_list_append PySem.F.type_list_append mt_append (pv 1) (pa_cons (pv 4) pa_nil))))))))
      (pss_one (ps_ret (pv 1))))), ?_⟩
    walk_at "go"
    intro f nf
    have sA := same_new nf (.lst [])
    have hF := @upd_same H f (.lst [])
    generalize upd H f (.lst []) = H1 at sA hF
    have hS1 := sA _ _ hS
    walk_at "go"
    refine r_loop0 (fun i σ H' => ∃ (ds : List Nat) (v2 v3 v4 : Option V), σ = [some (.ref a), some (.ref f), v2, v3, v4] ∧ Same H H' ∧ depthsTo xs i = some ds ∧ H' f = some (.lst ((natI ds).map V.int))) ⟨[], _, _, _, rfl, sA, rfl, hF⟩ ?_ ?_
    · rintro i σ H2 hi ⟨ds, v2, v3, v4, rfl, s2, hD, hF2⟩
      have hil : i < xs.length := by omega
      have hS2 := s2 _ _ hS
      have hdl := depthsTo_len hD
      have hnx : depthsTo xs (i + 1) = match climb xs (xs.length + 1) i 0 with
          | none => none
          | some d => some (ds ++ [d]) := by
        show (match depthsTo xs i with
        | none => none
        | some ds => match climb xs (xs.length + 1) i 0 with
          | none => none
          | some d => some (ds ++ [d])) = _
        rw [hD]
      walk_at "go"
      refine r_cut (fun σ H' => ∃ (k e : Nat), σ = [some (.ref a), some (.ref f), some (.int (i : Int)), some (.int (k : Int)), some (.int (e : Int))] ∧ H' = H2 ∧ climb xs (xs.length + 1) i 0 = some e) ?_ ?_
      · refine r_while (fun m σ H' => ∃ (k e : Nat), m = xs.length + 1 - e ∧ e ≤ xs.length + 1 ∧ k < xs.length ∧ σ = [some (.ref a), some (.ref f), some (.int (i : Int)), some (.int (k : Int)), some (.int (e : Int))] ∧ H' = H2 ∧ climb xs (xs.length + 1 - e) k e = climb xs (xs.length + 1) i 0) (xs.length + 1) ⟨i, 0, rfl, Nat.zero_le _, hil, rfl, rfl, rfl⟩ ?_
        rintro m σ H' ⟨k, e, rfl, he, hk, rfl, rfl, hcl'⟩
        have hK : xs[k]? = some xs[k] := List.getElem?_eq_getElem hk
        have hzo : okV xs[k] = true := List.all_eq_true.mp hok _ (List.mem_of_getElem? hK)
        generalize xs[k] = v at hK hzo
        walk_at "andor"
        walk_at "go"
        cases v with
        | non =>
          refine iteF ?_
          refine iteF ?_
          walk_at "go"
          refine ⟨k, e, rfl, rfl, ?_⟩
          rw [← hcl']
          cases hm : xs.length + 1 - e with
          | zero => rfl
          | succ n =>
            unfold climb
            rw [hK]
        | int j =>
          refine brNT (by intro h; cases h) ?_
          walk_at "go"
          refine brD (fun c => ?_) (fun c => ?_)
          · refine r_wh ?_
            obtain ⟨n, hm⟩ : ∃ n, xs.length + 1 - e = n + 1 := ⟨xs.length - e, by omega⟩
            have hcl2 : climb xs (xs.length + 1 - e) k e = if 0 ≤ j ∧ j < (xs.length : Int) then climb xs n j.toNat (e + 1) else none := by
              rw [hm]
              show (match xs[k]? with
                | some (.int j) => if 0 ≤ j ∧ j < (xs.length : Int) then climb xs n j.toNat (e + 1) else none
                | _ => some e) = _
              rw [hK]
            walk_at "go"
            have bad : ¬ (0 ≤ j ∧ j < (xs.length : Int)) → Q .non H' := fun h => by
              rw [if_neg h, hcl'] at hcl2
              rw [hcl2] at hnx
              refine q0 ?_ H' s2
              have hmono : ∀ d, depthsTo xs (i + 1 + d) = none := fun d => by
                induction d with
                | zero => exact hnx
                | succ d ih =>
                  show (match depthsTo xs (i + 1 + d) with
                    | none => none
                    | some ds => _) = none
                  rw [ih]
              have := hmono (xs.length - (i + 1))
              rw [show i + 1 + (xs.length - (i + 1)) = xs.length by omega] at this
              exact this
            refine brD (fun c1 => ?_) (fun c1 => ?_)
            · walk_at "go"
              refine brN (fun c2 => ?_) (fun c2 => ?_)
              · walk_at "go"
                exact bad (by omega)
              · walk_at "go"
                rw [if_pos ⟨c1, c2⟩] at hcl2
                refine ⟨n, by omega, j.toNat, e + 1, by omega, by omega, by omega, ?_, rfl, ?_⟩
                · rw [show ((j.toNat : Nat) : Int) = j by omega, show ((e + 1 : Nat) : Int) = (e : Int) + 1 by omega] <;> rfl
                · rw [← hcl', hcl2, show xs.length + 1 - (e + 1) = n by omega]
            · walk_at "go"
              exact bad (by omega)
          · walk_at "go"
            refine ⟨k, e, rfl, rfl, ?_⟩
            rw [← hcl', show xs.length + 1 - e = 0 by omega] <;> rfl
        | bl _ => cases hzo
        | str _ => cases hzo
        | byt _ => cases hzo
        | flt _ => cases hzo
        | ref _ => cases hzo
        | ty _ => cases hzo
      · rintro σ H' ⟨k, e, rfl, rfl, hcl'⟩
        rw [hcl'] at hnx
        walk_at "go"
        refine r_app hF2 (by rw [List.length_map, natI_len]; omega) ?_
        refine ⟨ds ++ [e], _, _, _, rfl, same_mut s2 nf, hnx, ?_⟩
        rw [upd_same, snoc_int, natI_snoc]
    · rintro σ H2 ⟨ds, v2, v3, v4, rfl, s2, hD, hF2⟩
      rw [show (xs.length : Int).toNat = xs.length by omega] at hD
      walk_at "go"
      exact q1 ds f H2 hD nf s2 hF2
theorem sc_is_tree : FnScope ["some", "found"] ["some"] (defScope s_is_tree) := ⟨rfl, rfl, rfl, by decide +kernel, rfl, by decide +kernel, by decide +kernel⟩
def sp_is_tree (_ : PySem.W.Frag) (_ : Addr) : Sp := fun vs H Q _ => ∃ (a : Addr) (xs : List V), vs = [.ref a] ∧ H a = some (.lst xs) ∧ xs.all okV = true ∧ xs.length ≤ 63 ∧ ∀ (b : Bool) (H' : Hp), (b = true ↔ 1 ≤ xs.length ∧ xs.length ≤ 40 ∧ IsTree xs) → Same H H' → Q (.bl b) H'
theorem ok_is_tree {f : Addr} {fd : FuncData} (F : Fun K "is_tree" "is_tree" s_is_tree f fd) (T : Txt K mg C) (c_tree_over : C8.Cal P w K mg base 43 "tree_over" (sp_tree_over K C) []) (c_depths : C8.Cal P w K mg base 1 "depths" (sp_depths K C) []) : FnOk P w K mg base CX0 44 f fd ["some"] (sp_is_tree K C) := by
  refine F.ok sc_is_tree (fun vs H Q E h => ?_) (fun cdv A outer s H vs Q E hr h => ?_)
  · obtain ⟨a, xs, rfl, hS, hok, hn, q⟩ := h
    rfl
  · obtain ⟨a, xs, rfl, hS, hok, hn, q⟩ := h
    refine ⟨_, (pss_cons (ps_if (pt_not (pt_chain op_le op_le pe_int (pe_callB c_len (by rfl) T.b_len PySem.boot_len (pa_cons (pv 0) pa_nil)) (C8.pe_gc (v := .int 40) (by rfl) T.g_MOST))) (pss_one (ps_ret pe_bl)) pss_nil)
      (pss_cons (ps_set (i := 1) sc_is_tree.nd rfl (by first | exact Or.inl rfl | exact Or.inr rfl) (C8.pe_c c_depths hr (by decide) rfl (pa_cons (pv 0) pa_nil)))
      (pss_one (ps_ret (pe_and (pe_cmpR o_notN (pv 1) pe_non (nomark _)) (pe_one (pe_cmpR (op_eqD hr.units) (C8.pe_c c_tree_over hr (by decide) rfl (pa_cons (pv 1) pa_nil)) (pv 0) (nomark _)))))))), ?_⟩
    walk_at "go"
    have no : ¬ (1 ≤ xs.length ∧ xs.length ≤ 40) → Q (.bl false) H := fun h => q false H ⟨fun z => absurd z Bool.false_ne_true, fun z => absurd ⟨z.1, z.2.1⟩ h⟩ (Same.refl _)
    refine brD (fun c1 => ?_) (fun c1 => ?_)
    · walk_at "go"
      refine brN (fun c2 => ?_) (fun c2 => ?_)
      · walk_at "go"
        exact no (by omega)
      · walk_at "go"
        refine ⟨a, xs, rfl, hS, hok, hn, fun hD H1 s1 => ?_, fun ds x H1 hD nx s1 hx => ?_⟩
        · walk_at "go"
          refine iteF ?_
          refine q false H1 ⟨fun z => absurd z Bool.false_ne_true, fun z => ?_⟩ s1
          obtain ⟨t, _, h2, _⟩ := isTree_deep z.2.2
          rw [hD] at h2
          cases h2
        · walk_at "go"
          refine brNT (by intro h; cases h) ?_
          have hdl := depthsTo_len hD
          obtain ⟨t, hC⟩ := cart_ex (natI ds)
          walk_at "go"
          refine ⟨x, natI ds, t, rfl, hx, by rw [natI_len]; omega, hC, fun y H2 ny s2 hy => ?_⟩
          walk_at "go"
          refine r_eqL (VT.SqL.lst hy) (VT.SqL.lst (s2 _ _ (s1 _ _ hS))) (BT.codeV_ok _ _ _) hok ?_
          refine q _ H2 ⟨fun z => ⟨by omega, by omega, t, (of_decide_eq_true z).symm⟩, fun z => decide_eq_true ?_⟩ (s1.trans s2)
          obtain ⟨u, h1, h2, h3⟩ := isTree_deep z.2.2
          rw [hD] at h2
          have e := Option.some.inj h2
          subst e
          rw [natI_len, hdl] at hC
          rw [hC.uniq h3, ← h1]
    · walk_at "go"
      exact no (by omega)
theorem sc_shapes : FnScope ["most", "found", "size", "top"] ["most"] (defScope s_shapes) := ⟨rfl, rfl, rfl, by decide +kernel, rfl, by decide +kernel, by decide +kernel⟩
def sp_shapes (_ : PySem.W.Frag) (_ : Addr) : Sp := fun vs H Q _ => ∃ (n : Nat), vs = [.int (n : Int)] ∧ n ≤ 40 ∧ ∀ (x : Addr) (H' : Hp), H x = none → Same H H' → H' x = some (.lst ((cats (n + 1)).map V.int)) → Q (.ref x) H'
theorem ok_shapes {f : Addr} {fd : FuncData} (F : Fun K "shapes" "shapes" s_shapes f fd) (T : Txt K mg C)  : FnOk P w K mg base CX0 1 f fd ["most"] (sp_shapes K C) := by
  refine F.ok sc_shapes (fun vs H Q E h => ?_) (fun cdv A outer s H vs Q E hr h => ?_)
  · obtain ⟨n, rfl, hn, q⟩ := h
    rfl
  · obtain ⟨n, rfl, hn, q⟩ := h
    refine ⟨_, (pss_cons (ps_set (i := 1) sc_shapes.nd rfl (by first | exact Or.inl rfl | exact Or.inr rfl) (pe_lst (pa_cons pe_int pa_nil)))
      (pss_cons (ps_for PassesOwn.never rfl (pi_range2 (by rfl) T.b_range (pa_cons pe_int (pa_cons (pe_op op_add (pv 0) pe_int) pa_nil))) (pg_name (i := 2) sc_shapes.nd rfl (by first | exact Or.inl rfl | exact Or.inr rfl)) (pss_one (ps_expr (pe_bm PySem.F.plainAttrs_list PySem.F.slot_list_append PySem.F.type_list_append mt_append (pv 1) (pa_cons (pe_callB (cr_sum rfl) (by rfl) T.b_sum (by decide +kernel) (pa_cons (pe_lc (own := [("top", 3)]) (g := gName 3) (tt := tYes) rfl sc_shapes.nd (pi_range1 (by rfl) T.b_range (pa_cons (pv 2) pa_nil)) (blkOk_by (own := [("top", 3)]) (N := ["most", "found", "size", "top"]) (sc := (defScope s_shapes)) (by decide +kernel)) (fun _ _ _ _ _ => pg_name (i := 3) sc_shapes.nd rfl (by first | exact Or.inl rfl | exact Or.inr rfl)) (fun _ _ _ _ _ => pts_nil) (fun _ _ _ _ _ => (pe_op op_mulW (pe_ix (ixL (K := K) rfl) (pv 1) (pv 3) (fun _ _ => rfl)) (pe_ix (ixL (K := K) rfl) (pv 1) (pe_op op_sub (pe_op op_sub (pv 2) pe_int) (pv 3)) (fun _ _ => rfl))))) pa_nil)) pa_nil)))))
      (pss_one (ps_ret (pv 1))))), ?_⟩
    walk_at "go"
    intro f nf
    have sA := same_new nf (.lst [V.int 1])
    have hF := @upd_same H f (.lst [V.int 1])
    generalize upd H f (.lst [V.int 1]) = H1 at sA hF
    walk_at "go"
    refine r_loopR (fun i σ H' => ∃ (v2 v3 : Option V), σ = [some (.int (n : Int)), some (.ref f), v2, v3] ∧ Same H H' ∧ H' f = some (.lst ((cats (i + 1)).map V.int))) ⟨_, _, rfl, sA, hF⟩ ?_ ?_
    · rintro i σ H2 hi ⟨v2, v3, rfl, s2, hF2⟩
      have hil : i < n := by omega
      have hcl' := cats_len (i + 1)
      walk_at "go"
      refine r_LcR0 (fun j => (prods (i + 1) j).map V.int) rfl (fun j _ => by rw [List.length_map, prods_len]; omega) (fun _ => rfl) (fun j H' N Z hj s hN hZ => ?_) (fun D H3 nD s3 hD => ?_)
      · have hj' : j < i + 1 := by omega
        have h1 := cats_at (n := i + 1) (i := j) hj'
        have h2 := cats_at (n := i + 1) (i := i + 1 - 1 - j) (by omega)
        have hm := cmul_cat (i := j) (j := i + 1 - 1 - j) (by omega) (by omega)
        have hF' := s _ _ hF2
        walk_at "go"
        refine iteT ?_
        walk_at "go"
        try refine r_ixL (VT.SqL.lst hF') (r_at (j := i + 1 - 1 - j) (by omega) h2) ?_
        walk_at "go"
        exact hN _ _ (Same.refl _) (by show (prods (i + 1) (j + 1)).map V.int = _; rw [prods_more, ← snoc_int])
      have hF3 := s3 _ _ hF2
      walk_at "go"
      refine r_sum (VT.SqL.lst hD) ?_
      rw [prods_sum, show ((1 : Int) + (i : Int)).toNat = i + 1 by omega, cat_rec (by omega) (by omega)]
      walk_at "go"
      try refine r_app hF3 (by rw [List.length_map]; omega) ?_
      refine ⟨_, _, rfl, same_mut (s2.trans s3) nf, ?_⟩
      rw [upd_same, snoc_int, ← cats_more]
    · rintro σ H2 ⟨v2, v3, rfl, s2, hF2⟩
      rw [show ((n : Int) + 1 - 1).toNat = n by omega] at hF2
      walk_at "go"
      exact q f H2 nf s2 hF2
theorem sc_many_trees : FnScope ["size"] ["size"] (defScope s_many_trees) := ⟨rfl, rfl, rfl, by decide +kernel, rfl, by decide +kernel, by decide +kernel⟩
def sp_many_trees (_ : PySem.W.Frag) (_ : Addr) : Sp := fun vs H Q _ => ∃ (n : Nat), vs = [.int (n : Int)] ∧ 1 ≤ n ∧ n ≤ 40 ∧ ∀ (H' : Hp), Same H H' → Q (.int (cat n : Int)) H'
theorem ok_many_trees {f : Addr} {fd : FuncData} (F : Fun K "many_trees" "many_trees" s_many_trees f fd) (T : Txt K mg C) (c_shapes : C8.Cal P w K mg base 1 "shapes" (sp_shapes K C) []) : FnOk P w K mg base CX0 2 f fd ["size"] (sp_many_trees K C) := by
  refine F.ok sc_many_trees (fun vs H Q E h => ?_) (fun cdv A outer s H vs Q E hr h => ?_)
  · obtain ⟨n, rfl, h1, hn, q⟩ := h
    rfl
  · obtain ⟨n, rfl, h1, hn, q⟩ := h
    refine ⟨_, (pss_cons (ps_if (pt_not (pt_chain op_le op_le pe_int (pv 0) (C8.pe_gc (v := .int 40) (by rfl) T.g_MOST))) (pss_one ps_never) pss_nil)
      (pss_one (ps_ret (pe_ix ix_list (C8.pe_c c_shapes hr (by decide) rfl (pa_cons (pv 0) pa_nil)) (pv 0) (fun _ _ => rfl))))), ?_⟩
    walk_at "go"
    refine brT (by omega) ?_
    walk_at "go"
    refine brNF (by omega) ?_
    walk_at "go"
    refine ⟨n, rfl, hn, fun x H' nx s hx => ?_⟩
    walk_at "go"
    refine r_ixL (VT.SqL.lst hx) (atI_nat (cats_at (n := n + 1) (i := n) (by omega))) ?_
    exact q H' s
theorem sc_build : FnScope ["counts", "first", "size", "number", "top", "found", "head", "many", "rest"] ["counts", "first", "size", "number", "top", "found"] (defScope s_build) := ⟨rfl, rfl, rfl, by decide +kernel, rfl, by decide +kernel, by decide +kernel⟩
def sp_build (_ : PySem.W.Frag) (_ : Addr) (n : Nat) : Sp := fun vs H Q _ => ∃ (c f : Addr) (N i : Nat) (top : Option Nat) (xs : List V) (t : BT), vs = [.ref c, .int (i : Int), .int (t.size : Int), .int (t.rank : Int), oV top, .ref f] ∧ H c = some (.lst ((cats N).map V.int)) ∧ H f = some (.lst xs) ∧ c ≠ f ∧ t.size ≤ N ∧ t.size ≤ 40 ∧ xs.length ≤ 40 ∧ i + t.size ≤ xs.length ∧ t.size < n ∧
  ∀ H', But f H H' → H' f = some (.lst (splice xs i (t.codeV i top))) → Q .non H'
theorem ok_build {f : Addr} {fd : FuncData} {n : Nat} (F : Fun K "build" "build" s_build f fd) (T : Txt K mg C) (c_build : C8.Cal P w K mg base (0 + n) "build" (sp_build K C n) []) : FnOk P w K mg base CX0 (0 + n + 1) f fd ["counts", "first", "size", "number", "top", "found"] (sp_build K C (n + 1)) := by
  refine F.ok sc_build (fun vs H Q E h => ?_) (fun cdv A outer s H vs Q E hr h => ?_)
  · obtain ⟨c, f, N, i, top, xs, t, rfl, hS, hF, ncf, htN, ht, hxl, hi, hlt, q⟩ := h
    rfl
  · obtain ⟨c, f, N, i, top, xs, t, rfl, hS, hF, ncf, htN, ht, hxl, hi, hlt, q⟩ := h
    refine ⟨_, (pss_one (ps_if (pt_cmpR op_gt (pv 2) pe_int (nomark _)) (pss_cons (ps_set (i := 6) sc_build.nd rfl (by first | exact Or.inl rfl | exact Or.inr rfl) pe_int)
      (pss_cons (ps_set (i := 7) sc_build.nd rfl (by first | exact Or.inl rfl | exact Or.inr rfl) (pe_op op_mulW (pe_ix ix_list (pv 0) pe_int (fun _ _ => rfl)) (pe_ix ix_list (pv 0) (pe_op op_sub (pv 2) pe_int) (fun _ _ => rfl))))
      (pss_cons (ps_while PassesOwn.never (pt_cmpR op_ge (pv 3) (pv 7) (nomark _)) (pss_cons (ps_set (i := 3) sc_build.nd rfl (by first | exact Or.inl rfl | exact Or.inr rfl) (pe_op op_sub (pv 3) (pv 7)))
      (pss_cons (ps_set (i := 6) sc_build.nd rfl (by first | exact Or.inl rfl | exact Or.inr rfl) (pe_op op_add (pv 6) pe_int))
      (pss_one (ps_set (i := 7) sc_build.nd rfl (by first | exact Or.inl rfl | exact Or.inr rfl) (pe_op op_mulW (pe_ix ix_list (pv 0) (pv 6) (fun _ _ => rfl)) (pe_ix ix_list (pv 0) (pe_op op_sub (pe_op op_sub (pv 2) pe_int) (pv 6)) (fun _ _ => rfl))))))))
      (pss_cons (ps_asg (pv 4) (pg_sub (pv 5) (pe_op op_add (pv 1) (pv 6)) set_list))
      (pss_cons (ps_set (i := 8) sc_build.nd rfl (by first | exact Or.inl rfl | exact Or.inr rfl) (pe_ix ix_list (pv 0) (pe_op op_sub (pe_op op_sub (pv 2) pe_int) (pv 6)) (fun _ _ => rfl)))
      (pss_cons (ps_expr (C8.pe_c c_build hr (by omega) rfl (pa_cons (pv 0) (pa_cons (pv 1) (pa_cons (pv 6) (pa_cons (pe_op op_fdivW (pv 3) (pv 8)) (pa_cons (pe_op op_add (pv 1) (pv 6)) (pa_cons (pv 5) pa_nil))))))))
      (pss_one (ps_expr (C8.pe_c c_build hr (by omega) rfl (pa_cons (pv 0) (pa_cons (pe_op op_add (pe_op op_add (pv 1) (pv 6)) pe_int) (pa_cons (pe_op op_sub (pe_op op_sub (pv 2) pe_int) (pv 6)) (pa_cons (pe_op op_mod (pv 3) (pv 8)) (pa_cons (pe_op op_add (pv 1) (pv 6)) (pa_cons (pv 5) pa_nil))))))))))))))) pss_nil)), ?_⟩
    walk_at "go"
    refine brD (fun c1 => ?_) (fun c1 => ?_)
    · cases t with
      | nil => exact absurd c1 (by decide)
      | node l r =>
        have hs : (BT.node l r).size = l.size + 1 + r.size := rfl
        have hrk : (BT.node l r).rank = upto (BT.node l r).size l.size + l.rank * cat r.size + r.rank := rfl
        have bl := BT.rank_lt l (by omega)
        have br := BT.rank_lt r (by omega)
        have b2 := two_lt bl br
        generalize hsz : (BT.node l r).size = sz at *
        generalize hRk : (BT.node l r).rank = rk at *
        have h0 := cats_at (n := N) (i := 0) (by omega)
        have h1 := cats_at (n := N) (i := sz - 1) (by omega)
        have hm := cmul_cat (i := 0) (j := sz - 1) (by omega) (by omega)
        walk_at "go"
        try refine r_ixL (VT.SqL.lst hS) (r_at (j := sz - 1) (by omega) h1) ?_
        walk_at "go"
        refine r_while (fun m σ H' => ∃ (k : Nat) (v8 : Option V), m = l.size - k ∧ k ≤ l.size ∧ upto sz k ≤ rk ∧ σ = [some (.ref c), some (.int (i : Int)), some (.int (sz : Int)), some (.int ((rk - upto sz k : Nat) : Int)), some (oV top), some (.ref f), some (.int (k : Int)), some (.int ((cat k : Int) * (cat (sz - 1 - k) : Int))), v8] ∧ H' = H) l.size ⟨0, _, rfl, Nat.zero_le _, Nat.zero_le _, rfl, rfl⟩ ?_
        rintro m σ H' ⟨k, v8, rfl, hk, huk, rfl, rfl⟩
        have hstep : upto sz (k + 1) = upto sz k + cat k * cat (sz - 1 - k) := rfl
        have hcast : (cat k : Int) * (cat (sz - 1 - k) : Int) = ((cat k * cat (sz - 1 - k) : Nat) : Int) := (Int.natCast_mul _ _).symm
        have hat : k = l.size → rk - upto sz k < cat k * cat (sz - 1 - k) := fun e => by
          rw [e, show sz - 1 - l.size = r.size by omega]
          omega
        have hlow : k < l.size → upto sz (k + 1) ≤ rk := fun e => by
          have := upto_mono sz (a := k + 1) (b := l.size) e
          omega
        walk_at "go"
        rw [hcast]
        refine brD (fun c2 => ?_) (fun c2 => ?_)
        · have hkl : k < l.size := by
            rcases Nat.lt_or_ge k l.size with e | e
            · exact e
            · have := hat (by omega)
              omega
          have hl2 := hlow hkl
          refine r_wh ?_
          have h2 := cats_at (n := N) (i := k + 1) (by omega)
          have h3 := cats_at (n := N) (i := sz - 1 - (k + 1)) (by omega)
          have hm2 := cmul_cat (i := k + 1) (j := sz - 1 - (k + 1)) (by omega) (by omega)
          walk_at "go"
          try refine r_ixL (VT.SqL.lst hS) (r_at (j := k + 1) (by omega) h2) ?_
          walk_at "go"
          try refine r_ixL (VT.SqL.lst hS) (r_at (j := sz - 1 - (k + 1)) (by omega) h3) ?_
          walk_at "go"
          refine ⟨l.size - (k + 1), by omega, k + 1, v8, rfl, by omega, by omega, ?_, rfl⟩
          rw [show ((rk - upto sz (k + 1) : Nat) : Int) = ((rk - upto sz k : Nat) : Int) - ((cat k * cat (sz - 1 - k) : Nat) : Int) by omega, show ((k + 1 : Nat) : Int) = (k : Int) + 1 by omega] <;> rfl
        · have hke : k = l.size := by
            rcases Nat.lt_or_ge k l.size with e | e
            · have := hlow e
              omega
            · omega
          subst hke
          have h2 := cats_at (n := N) (i := r.size) (by omega)
          have e1 : rk - upto sz l.size = l.rank * cat r.size + r.rank := by omega
          have hp := cat_pos (s := r.size) (by omega)
          have d1 : (((rk - upto sz l.size : Nat) : Int)) / (cat r.size : Int) = (l.rank : Int) := by
            rw [e1, ← Int.natCast_ediv, Nat.mul_comm, Nat.mul_add_div hp, Nat.div_eq_of_lt br, Nat.add_zero]
          have d2 : (((rk - upto sz l.size : Nat) : Int)) % (cat r.size : Int) = (r.rank : Int) := by
            rw [e1, ← Int.natCast_emod, Nat.mul_comm, Nat.mul_add_mod, Nat.mod_eq_of_lt br]
          have hdv : CDivW ((rk - upto sz l.size : Nat) : Int) (cat r.size : Int) := wide_div (b := 80) (by omega) (by have := cat_lt (s := r.size) (by omega); omega) (by decide) (by decide)
          walk_at "go"
          refine r_setV hF (by omega) (by omega) ?_
          rw [show ((i : Int) + (l.size : Int)).toNat = i + l.size by omega]
          have b1 : But f H' (upd H' f (.lst (xs.set (i + l.size) (oV top)))) := (But.of (Same.refl _)).up
          have hS2 := b1.get ncf hS
          have hF2 := @upd_same H' f (.lst (xs.set (i + l.size) (oV top)))
          generalize upd H' f (.lst (xs.set (i + l.size) (oV top))) = H2 at b1 hS2 hF2
          walk_at "go"
          try refine r_ixL (VT.SqL.lst hS2) (r_at (j := r.size) (by omega) h2) ?_
          walk_at "go"
          rw [d1]
          walk_at "go"
          refine ⟨c, f, N, i, some (i + l.size), _, l, ?_, hS2, hF2, ncf, by omega, by omega, by rw [List.length_set]; exact hxl, by rw [List.length_set]; omega, by omega, fun H3 b3 hF3 => ?_⟩
          · show _ = [V.ref c, V.int (i : Int), V.int (l.size : Int), V.int (l.rank : Int), V.int ((i + l.size : Nat) : Int), V.ref f]
            rw [show ((i + l.size : Nat) : Int) = (i : Int) + (l.size : Int) by omega] <;> rfl
          have b13 := b1.trans b3
          walk_at "go"
          rw [d2]
          walk_at "go"
          refine ⟨c, f, N, i + l.size + 1, some (i + l.size), _, r, ?_, b3.get ncf hS2, hF3, ncf, by omega, by omega, by rw [splice_len (by rw [List.length_set, BT.codeV_len]; omega), List.length_set]; exact hxl, by rw [splice_len (by rw [List.length_set, BT.codeV_len]; omega), List.length_set]; omega, by omega, fun H4 b4 hF4 => ?_⟩
          · show _ = [V.ref c, V.int ((i + l.size + 1 : Nat) : Int), V.int (r.size : Int), V.int (r.rank : Int), V.int ((i + l.size : Nat) : Int), V.ref f]
            rw [show ((i + l.size : Nat) : Int) = (i : Int) + (l.size : Int) by omega, show ((i + l.size + 1 : Nat) : Int) = (i : Int) + (l.size : Int) + 1 by omega, show (r.size : Int) = (sz : Int) - 1 - (l.size : Int) by omega] <;> rfl
          refine q H4 (b13.trans b4) ?_
          rw [hF4, splice_tree (xs := xs) (l := l) (r := r) (top := top) (f := i) (by omega)]
    · walk_at "go"
      cases t with
      | nil =>
        refine q H (But.of (Same.refl _)) ?_
        show H f = some (.lst (splice xs i []))
        rw [splice_nil]
        exact hF
      | node l r =>
        have hs : (BT.node l r).size = l.size + 1 + r.size := rfl
        omega
theorem no_build {K : PySem.W.Frag} {C : Addr} : ∀ vs H Q E, ¬ sp_build K C 0 vs H Q E := by
  rintro vs H Q E ⟨c, f, N, i, top, xs, t, rfl, hS, hF, ncf, htN, ht, hxl, hi, hlt, q⟩
  omega
theorem sc_tree_at : FnScope ["size", "number", "found"] ["size", "number"] (defScope s_tree_at) := ⟨rfl, rfl, rfl, by decide +kernel, rfl, by decide +kernel, by decide +kernel⟩
def sp_tree_at (_ : PySem.W.Frag) (_ : Addr) : Sp := fun vs H Q _ => ∃ (t : BT), vs = [.int (t.size : Int), .int (t.rank : Int)] ∧ 1 ≤ t.size ∧ t.size ≤ 40 ∧ ∀ (x : Addr) (H' : Hp), H x = none → Same H H' → H' x = some (.lst (t.codeV 0 none)) → Q (.ref x) H'
theorem ok_tree_at {f : Addr} {fd : FuncData} (F : Fun K "tree_at" "tree_at" s_tree_at f fd) (T : Txt K mg C) (c_build : C8.Cal P w K mg base 42 "build" (sp_build K C 42) []) (c_shapes : C8.Cal P w K mg base 1 "shapes" (sp_shapes K C) []) (c_many_trees : C8.Cal P w K mg base 2 "many_trees" (sp_many_trees K C) []) : FnOk P w K mg base CX0 43 f fd ["size", "number"] (sp_tree_at K C) := by
  refine F.ok sc_tree_at (fun vs H Q E h => ?_) (fun cdv A outer s H vs Q E hr h => ?_)
  · obtain ⟨t, rfl, h1, hn, q⟩ := h
    rfl
  · obtain ⟨t, rfl, h1, hn, q⟩ := h
    refine ⟨_, (pss_cons (ps_if (pt_not (pt_chain op_le op_lt pe_int (pv 1) (C8.pe_c c_many_trees hr (by decide) rfl (pa_cons (pv 0) pa_nil)))) (pss_one ps_never) pss_nil)
      (pss_cons (ps_set (i := 2) sc_tree_at.nd rfl (by first | exact Or.inl rfl | exact Or.inr rfl) (pe_op op_rep (pe_lst (pa_cons pe_non pa_nil)) (pv 0)))
      (pss_cons (ps_expr (C8.pe_c c_build hr (by decide) rfl (pa_cons (C8.pe_c c_shapes hr (by decide) rfl (pa_cons (pv 0) pa_nil)) (pa_cons pe_int (pa_cons (pv 0) (pa_cons (pv 1) (pa_cons pe_non (pa_cons (pv 2) pa_nil))))))))
      (pss_one (ps_ret (pv 2)))))), ?_⟩
    have hrk := BT.rank_lt t hn
    walk_at "go"
    refine brT (by omega) ?_
    walk_at "go"
    refine ⟨t.size, rfl, h1, hn, fun H1 s1 => ?_⟩
    walk_at "go"
    refine brNF (by omega) ?_
    walk_at "go"
    intro e ne
    have sB := s1.trans (same_new ne (.lst [V.non]))
    have hE := @upd_same H1 e (.lst [V.non])
    generalize upd H1 e (.lst [V.non]) = H2 at sB hE
    walk_at "go"
    refine r_rep hE (by omega) (by omega) fun f nf => ?_
    rw [show (t.size : Int).toNat = t.size by omega]
    have sC := sB.trans (same_new nf (.lst (List.replicate t.size V.non)))
    have fr := sB.free nf
    have hF := @upd_same H2 f (.lst (List.replicate t.size V.non))
    generalize upd H2 f (.lst (List.replicate t.size V.non)) = H3 at hF sC
    walk_at "go"
    refine ⟨t.size, rfl, hn, fun x H4 nx s4 hx => ?_⟩
    have hF4 := s4 _ _ hF
    walk_at "go"
    refine ⟨x, f, t.size + 1, 0, none, _, t, rfl, hx, hF4, (ne_of_none hF nx).symm, by omega, hn, by rw [List.length_replicate]; omega, by rw [List.length_replicate]; omega, by omega, fun H5 b5 hF5 => ?_⟩
    walk_at "go"
    refine q f H5 fr (same_but (sC.trans s4) b5 fr) ?_
    rw [hF5, splice_all (by rw [BT.codeV_len, List.length_replicate])]
theorem sc_ask_tree : FnScope ["tree"] ["tree"] (defScope s_ask_tree) := ⟨rfl, rfl, rfl, by decide +kernel, rfl, by decide +kernel, by decide +kernel⟩
def sp_ask_tree (_ : PySem.W.Frag) (_ : Addr) : Sp := fun vs H Q _ => ∃ (a : Addr) (xs : List V), vs = [.ref a] ∧ H a = some (.lst xs) ∧ xs.all okV = true ∧ 1 ≤ xs.length ∧ xs.length ≤ 40 ∧ IsTree xs ∧ ∀ (H' : Hp), Same H H' → Q .non H'
theorem ok_ask_tree {f : Addr} {fd : FuncData} (F : Fun K "ask_tree" "ask_tree" s_ask_tree f fd) (T : Txt K mg C) (c_is_tree : C8.Cal P w K mg base 44 "is_tree" (sp_is_tree K C) []) : FnOk P w K mg base CX0 45 f fd ["tree"] (sp_ask_tree K C) := by
  refine F.ok sc_ask_tree (fun vs H Q E h => ?_) (fun cdv A outer s H vs Q E hr h => ?_)
  · obtain ⟨a, xs, rfl, hS, hok, h1, hn, hT, q⟩ := h
    rfl
  · obtain ⟨a, xs, rfl, hS, hok, h1, hn, hT, q⟩ := h
    refine ⟨_, (pss_one (ps_if (pt_not (pt_val (C8.pe_c c_is_tree hr (by decide) rfl (pa_cons (pv 0) pa_nil)))) (pss_one ps_never) pss_nil)), ?_⟩
    walk_at "go"
    refine ⟨a, xs, rfl, hS, hok, by omega, fun b H' hb s => ?_⟩
    have e : b = true := hb.mpr ⟨h1, hn, hT⟩
    subst e
    walk_at "go"
    refine iteF ?_
    walk_at "go"
    exact q H' s
theorem sc_head_of : FnScope ["tree", "first", "behind", "place"] ["tree", "first", "behind"] (defScope s_head_of) := ⟨rfl, rfl, rfl, by decide +kernel, rfl, by decide +kernel, by decide +kernel⟩
def sp_head_of (_ : PySem.W.Frag) (_ : Addr) : Sp := fun vs H Q _ => ∃ (a : Addr) (xs : List V) (l r : BT) (f : Nat) (top : Option Nat), vs = [.ref a, .int (f : Int), .int ((f + (BT.node l r).size : Nat) : Int)] ∧ H a = some (.lst xs) ∧ Sub xs (.node l r) f top ∧ Out top f (f + (BT.node l r).size) ∧ f + (BT.node l r).size ≤ 63 ∧ Q (.int ((f + l.size : Nat) : Int)) H
theorem ok_head_of {f : Addr} {fd : FuncData} (F : Fun K "head_of" "head_of" s_head_of f fd) (T : Txt K mg C)  : FnOk P w K mg base CX0 1 f fd ["tree", "first", "behind"] (sp_head_of K C) := by
  refine F.ok sc_head_of (fun vs H Q E h => ?_) (fun cdv A outer s H vs Q E hr h => ?_)
  · obtain ⟨a, xs, l, r, f, top, rfl, hS, hSub, hO, hn, q⟩ := h
    rfl
  · obtain ⟨a, xs, l, r, f, top, rfl, hS, hSub, hO, hn, q⟩ := h
    refine ⟨_, (pss_cons (ps_for PassesOwn.never rfl (pi_range2 (by rfl) T.b_range (pa_cons (pv 1) (pa_cons (pv 2) pa_nil))) (pg_name (i := 3) sc_head_of.nd rfl (by first | exact Or.inl rfl | exact Or.inr rfl)) (pss_one (ps_if (PW.pt (pw_or (pt_cmpR o_isN (pe_ix ix_list (pv 0) (pv 3) (fun _ _ => rfl)) pe_non (nomark _)) (pw_or1 (pt_not (pt_chain op_le op_lt (pv 1) (pe_ix ix_list (pv 0) (pv 3) (fun _ _ => rfl)) (pv 2)))))) (pss_one (ps_ret (pv 3))) pss_nil)))
      (pss_one (ps_ret pe_non))), ?_⟩
    have hs : (BT.node l r).size = l.size + 1 + r.size := rfl
    generalize hsz : (BT.node l r).size = sz at *
    walk_at "go"
    refine r_loopR (fun i σ H' => ∃ v3, i ≤ l.size ∧ σ = [some (.ref a), some (.int (f : Int)), some (.int ((f + sz : Nat) : Int)), v3] ∧ H' = H) ⟨_, Nat.zero_le _, rfl, rfl⟩ ?_ ?_
    · rintro i σ H' hi ⟨v3, hil, rfl, rfl⟩
      by_cases c : i < l.size
      · obtain ⟨q', hq, q1, q2⟩ := hSub.before c
        rw [hsz] at q2
        walk_at "go"
        walk_at "andor"
        walk_at "go"
        refine iteF ?_
        walk_at "go"
        refine brT (by omega) ?_
        walk_at "go"
        refine brNF (by omega) ?_
        walk_at "go"
        exact ⟨_, by omega, rfl, rfl⟩
      · obtain rfl : i = l.size := by omega
        have hq := hSub.head
        cases top with
        | none =>
          replace hq : xs[f + l.size]? = some .non := hq
          walk_at "go"
          walk_at "andor"
          walk_at "go"
          refine iteT ?_
          refine iteT ?_
          walk_at "go"
          rw [show (f : Int) + (l.size : Int) = ((f + l.size : Nat) : Int) by omega]
          exact q
        | some t =>
          have ho := hO t rfl
          replace hq : xs[f + l.size]? = some (.int (t : Int)) := hq
          walk_at "go"
          walk_at "andor"
          walk_at "go"
          refine brF (by intro h; cases h) ?_
          walk_at "go"
          refine brD (fun c1 => ?_) (fun c1 => ?_)
          · walk_at "go"
            refine brNT (by omega) ?_
            walk_at "go"
            rw [show (f : Int) + (l.size : Int) = ((f + l.size : Nat) : Int) by omega]
            exact q
          · walk_at "go"
            refine iteT ?_
            walk_at "go"
            rw [show (f : Int) + (l.size : Int) = ((f + l.size : Nat) : Int) by omega]
            exact q
    · rintro σ H' ⟨v3, hil, rfl, rfl⟩
      omega
theorem sc_number_over : FnScope ["counts", "tree", "first", "behind", "size", "head", "number", "ahead", "top"] ["counts", "tree", "first", "behind"] (defScope s_number_over) := ⟨rfl, rfl, rfl, by decide +kernel, rfl, by decide +kernel, by decide +kernel⟩
def sp_number_over (_ : PySem.W.Frag) (_ : Addr) (n : Nat) : Sp := fun vs H Q _ => ∃ (c a : Addr) (N f : Nat) (top : Option Nat) (xs : List V) (t : BT), vs = [.ref c, .ref a, .int (f : Int), .int ((f + t.size : Nat) : Int)] ∧ H c = some (.lst ((cats N).map V.int)) ∧ H a = some (.lst xs) ∧ Sub xs t f top ∧ Out top f (f + t.size) ∧ t.size ≤ N ∧ f + t.size ≤ 40 ∧ t.size < n ∧
  ∀ H', Same H H' → Q (.int (t.rank : Int)) H'
theorem ok_number_over {f : Addr} {fd : FuncData} {n : Nat} (F : Fun K "number_over" "number_over" s_number_over f fd) (T : Txt K mg C) (c_number_over : C8.Cal P w K mg base (1 + n) "number_over" (sp_number_over K C n) []) (c_head_of : C8.Cal P w K mg base 1 "head_of" (sp_head_of K C) []) : FnOk P w K mg base CX0 (1 + n + 1) f fd ["counts", "tree", "first", "behind"] (sp_number_over K C (n + 1)) := by
  refine F.ok sc_number_over (fun vs H Q E h => ?_) (fun cdv A outer s H vs Q E hr h => ?_)
  · obtain ⟨c, a, N, f, top, xs, t, rfl, hS, hX, hSub, hO, htN, hn, hlt, q⟩ := h
    rfl
  · obtain ⟨c, a, N, f, top, xs, t, rfl, hS, hX, hSub, hO, htN, hn, hlt, q⟩ := h
    refine ⟨_, (pss_cons (ps_if (pt_cmpR op_eq (pv 2) (pv 3) (nomark _)) (pss_one (ps_ret pe_int)) pss_nil)
      (pss_cons (ps_set (i := 4) sc_number_over.nd rfl (by first | exact Or.inl rfl | exact Or.inr rfl) (pe_op op_sub (pv 3) (pv 2)))
      (pss_cons (ps_set (i := 5) sc_number_over.nd rfl (by first | exact Or.inl rfl | exact Or.inr rfl) (C8.pe_c c_head_of hr (by omega) rfl (pa_cons (pv 1) (pa_cons (pv 2) (pa_cons (pv 3) pa_nil)))))
      (pss_cons (ps_set (i := 6) sc_number_over.nd rfl (by first | exact Or.inl rfl | exact Or.inr rfl) (pe_callB (cr_sum rfl) (by rfl) T.b_sum (by decide +kernel) (pa_cons (pe_lc (own := [("top", 8)]) (g := gName 8) (tt := tYes) rfl sc_number_over.nd (pi_range1 (by rfl) T.b_range (pa_cons (pe_op op_sub (pv 5) (pv 2)) pa_nil)) (blkOk_by (own := [("top", 8)]) (N := ["counts", "tree", "first", "behind", "size", "head", "number", "ahead", "top"]) (sc := (defScope s_number_over)) (by decide +kernel)) (fun _ _ _ _ _ => pg_name (i := 8) sc_number_over.nd rfl (by first | exact Or.inl rfl | exact Or.inr rfl)) (fun _ _ _ _ _ => pts_nil) (fun _ _ _ _ _ => (pe_op op_mulW (pe_ix (ixL (K := K) rfl) (pv 0) (pv 8) (fun _ _ => rfl)) (pe_ix (ixL (K := K) rfl) (pv 0) (pe_op op_sub (pe_op op_sub (pv 4) pe_int) (pv 8)) (fun _ _ => rfl))))) pa_nil)))
      (pss_cons (ps_set (i := 7) sc_number_over.nd rfl (by first | exact Or.inl rfl | exact Or.inr rfl) (C8.pe_c c_number_over hr (by omega) rfl (pa_cons (pv 0) (pa_cons (pv 1) (pa_cons (pv 2) (pa_cons (pv 5) pa_nil))))))
      (pss_one (ps_ret (pe_op op_add (pe_op op_add (pv 6) (pe_op op_mulW (pv 7) (pe_ix ix_list (pv 0) (pe_op op_sub (pe_op op_sub (pv 3) (pv 5)) pe_int) (fun _ _ => rfl)))) (C8.pe_c c_number_over hr (by omega) rfl (pa_cons (pv 0) (pa_cons (pv 1) (pa_cons (pe_op op_add (pv 5) pe_int) (pa_cons (pv 3) pa_nil))))))))))))), ?_⟩
    walk_at "go"
    refine brD (fun c1 => ?_) (fun c1 => ?_)
    · walk_at "go"
      cases t with
      | nil => exact q H (Same.refl _)
      | node l r =>
        have hs : (BT.node l r).size = l.size + 1 + r.size := rfl
        omega
    · walk_at "go"
      cases t with
      | nil => exact absurd rfl c1
      | node l r =>
        have hs : (BT.node l r).size = l.size + 1 + r.size := rfl
        have hrk : (BT.node l r).rank = upto (BT.node l r).size l.size + l.rank * cat r.size + r.rank := rfl
        have bl := BT.rank_lt l (by omega)
        refine ⟨a, xs, l, r, f, top, rfl, hX, hSub, hO, by omega, ?_⟩
        have hl := hSub.left
        have hr := hSub.right
        generalize hsz : (BT.node l r).size = sz at *
        generalize hRk : (BT.node l r).rank = rk at *
        walk_at "go"
        refine r_LcR0 (fun j => (prods sz j).map V.int) rfl (fun j _ => by rw [List.length_map, prods_len]; omega) (fun _ => rfl) (fun j H' N' Z hj s hN hZ => ?_) (fun D H1 nD s1 hD => ?_)
        · have h1 := cats_at (n := N) (i := j) (by omega)
          have h2 := cats_at (n := N) (i := sz - 1 - j) (by omega)
          have hm := cmul_cat (i := j) (j := sz - 1 - j) (by omega) (by omega)
          have hS' := s _ _ hS
          walk_at "go"
          refine iteT ?_
          walk_at "go"
          try refine r_ixL (VT.SqL.lst hS') (r_at (j := sz - 1 - j) (by omega) h2) ?_
          walk_at "go"
          exact hN _ _ (Same.refl _) (by show (prods sz (j + 1)).map V.int = _; rw [prods_more, ← snoc_int])
        walk_at "go"
        refine r_sum (VT.SqL.lst hD) ?_
        rw [prods_sum, show (((f + l.size : Nat) : Int) - (f : Int)).toNat = l.size by omega]
        have hS1 := s1 _ _ hS
        have hX1 := s1 _ _ hX
        walk_at "go"
        refine ⟨c, a, N, f, some (f + l.size), xs, l, rfl, hS1, hX1, hl, Out.left _ _, by omega, by omega, by omega, fun H2 s2 => ?_⟩
        have hS2 := s2 _ _ hS1
        have hX2 := s2 _ _ hX1
        have h3 := cats_at (n := N) (i := r.size) (by omega)
        have hm : CMulW (l.rank : Int) (cat r.size : Int) := wide_mul (a := 80) (b := 80) (by have := cat_lt (s := l.size) (by omega); omega) (by have := cat_lt (s := r.size) (by omega); omega) (by decide) (by decide) (by decide)
        walk_at "go"
        try refine r_ixL (VT.SqL.lst hS2) (r_at (j := r.size) (by omega) h3) ?_
        walk_at "go"
        refine ⟨c, a, N, f + l.size + 1, some (f + l.size), xs, r, ?_, hS2, hX2, hr, ?_, by omega, by omega, by omega, fun H3 s3 => ?_⟩
        · rw [show ((f + l.size + 1 + r.size : Nat) : Int) = ((f + sz : Nat) : Int) by omega, show ((f + l.size + 1 : Nat) : Int) = ((f + l.size : Nat) : Int) + 1 by omega] <;> rfl
        · exact Out.right _ _
        walk_at "go"
        have e : (upto sz l.size : Int) + (l.rank : Int) * (cat r.size : Int) + (r.rank : Int) = (rk : Int) := by
          rw [hrk, Int.natCast_add, Int.natCast_add, Int.natCast_mul]
        rw [e]
        exact q H3 ((s1.trans s2).trans s3)
theorem no_number_over {K : PySem.W.Frag} {C : Addr} : ∀ vs H Q E, ¬ sp_number_over K C 0 vs H Q E := by
  rintro vs H Q E ⟨c, a, N, f, top, xs, t, rfl, hS, hX, hSub, hO, htN, hn, hlt, q⟩
  omega
theorem sc_tree_number : FnScope ["tree"] ["tree"] (defScope s_tree_number) := ⟨rfl, rfl, rfl, by decide +kernel, rfl, by decide +kernel, by decide +kernel⟩
def sp_tree_number (_ : PySem.W.Frag) (_ : Addr) : Sp := fun vs H Q _ => ∃ (a : Addr) (t : BT), vs = [.ref a] ∧ H a = some (.lst (t.codeV 0 none)) ∧ 1 ≤ t.size ∧ t.size ≤ 40 ∧ ∀ (H' : Hp), Same H H' → Q (.int (t.rank : Int)) H'
theorem ok_tree_number {f : Addr} {fd : FuncData} (F : Fun K "tree_number" "tree_number" s_tree_number f fd) (T : Txt K mg C) (c_number_over : C8.Cal P w K mg base 43 "number_over" (sp_number_over K C 42) []) (c_shapes : C8.Cal P w K mg base 1 "shapes" (sp_shapes K C) []) (c_ask_tree : C8.Cal P w K mg base 45 "ask_tree" (sp_ask_tree K C) []) : FnOk P w K mg base CX0 46 f fd ["tree"] (sp_tree_number K C) := by
  refine F.ok sc_tree_number (fun vs H Q E h => ?_) (fun cdv A outer s H vs Q E hr h => ?_)
  · obtain ⟨a, t, rfl, hS, h1, hn, q⟩ := h
    rfl
  · obtain ⟨a, t, rfl, hS, h1, hn, q⟩ := h
    refine ⟨_, (pss_cons (ps_expr (C8.pe_c c_ask_tree hr (by decide) rfl (pa_cons (pv 0) pa_nil)))
      (pss_one (ps_ret (C8.pe_c c_number_over hr (by decide) rfl (pa_cons (C8.pe_c c_shapes hr (by decide) rfl (pa_cons (pe_callB c_len (by rfl) T.b_len PySem.boot_len (pa_cons (pv 0) pa_nil)) pa_nil)) (pa_cons (pv 0) (pa_cons pe_int (pa_cons (pe_callB c_len (by rfl) T.b_len PySem.boot_len (pa_cons (pv 0) pa_nil)) pa_nil)))))))), ?_⟩
    have hvl := BT.codeV_len t 0 none
    walk_at "go"
    refine ⟨a, t.codeV 0 none, rfl, hS, BT.codeV_ok _ _ _, by omega, by omega, ⟨t, rfl⟩, fun H1 s1 => ?_⟩
    have hS1 := s1 _ _ hS
    walk_at "go"
    rw [hvl]
    refine ⟨t.size, rfl, hn, fun x H2 nx s2 hx => ?_⟩
    have hS2 := s2 _ _ hS1
    walk_at "go"
    rw [hvl]
    refine ⟨x, a, t.size + 1, 0, none, _, t, by rw [Nat.zero_add] <;> rfl, hx, hS2, Sub.whole t, Out.none _ _, by omega, by omega, by omega, fun H3 s3 => ?_⟩
    exact q H3 ((s1.trans s2).trans s3)
theorem cell_at {ns : List Int} {k : Int} (h0 : 0 ≤ k) (h : k < (ns.length : Int)) : atI (ns.map V.int) k = some (.int (ns.getD k.toNat 0)) := by
  have hk : k.toNat < ns.length := by omega
  refine r_at (j := k.toNat) (by omega) ?_
  rw [List.getElem?_map, List.getD_eq_getElem?_getD, List.getElem?_eq_getElem hk]
  rfl
theorem cell_no {ns : List Int} {k : Int} (h : ¬ k < (ns.length : Int)) : ns.getD k.toNat 0 = 0 := by
  rw [List.getD_eq_getElem?_getD, List.getElem?_eq_none (by omega)]
  rfl
theorem sc__law_cell_at : FnScope ["script", "k"] ["script", "k"] (defScope s__law_cell_at) := ⟨rfl, rfl, rfl, by decide +kernel, rfl, by decide +kernel, by decide +kernel⟩
def sp__law_cell_at (K : PySem.W.Frag) (_ : Addr) : Sp := fun vs H Q _ => ∃ (a : Addr) (ns : List Int) (k : Int), vs = [.ref a, .int k] ∧ SqL K H a (ns.map V.int) ∧ 0 ≤ k ∧ Q (.int (ns.getD k.toNat 0)) H
theorem ok__law_cell_at {f : Addr} {fd : FuncData} (F : Fun K "_law_cell_at" "_law_cell_at" s__law_cell_at f fd) (T : Txt K mg C)  : FnOk P w K mg base CX0 1 f fd ["script", "k"] (sp__law_cell_at K C) := by
  refine F.ok sc__law_cell_at (fun vs H Q E h => ?_) (fun cdv A outer s H vs Q E hr h => ?_)
  · obtain ⟨a, ns, k, rfl, hS, h0, q⟩ := h
    rfl
  · obtain ⟨a, ns, k, rfl, hS, h0, q⟩ := h
    refine ⟨_, (pss_cons (ps_if (pt_cmpR op_lt (pv 1) (pe_callB c_len (by rfl) T.b_len PySem.boot_len (pa_cons (pv 0) pa_nil)) (nomark _)) (pss_one (ps_ret (pe_ix ix_list (pv 0) (pv 1) (fun _ _ => rfl)))) pss_nil)
      (pss_one (ps_ret pe_int))), ?_⟩
    walk_at "go"
    try rw [List.length_map]
    refine brD (fun c => ?_) (fun c => ?_)
    · have c2 := cell_at h0 c
      walk_at "go"
      exact q
    · rw [cell_no c] at q
      walk_at "go"
      exact q
theorem sc__law_whole : FnScope ["found"] ["found"] (defScope s__law_whole) := ⟨rfl, rfl, rfl, by decide +kernel, rfl, by decide +kernel, by decide +kernel⟩
def sp__law_whole (_ : PySem.W.Frag) (_ : Addr) : Sp := fun vs H Q _ => ∃ (i : Int), vs = [.int i] ∧ Q (.bl true) H
theorem ok__law_whole {f : Addr} {fd : FuncData} (F : Fun K "_law_whole" "_law_whole" s__law_whole f fd) (T : Txt K mg C)  : FnOk P w K mg base CX0 1 f fd ["found"] (sp__law_whole K C) := by
  refine F.ok sc__law_whole (fun vs H Q E h => ?_) (fun cdv A outer s H vs Q E hr h => ?_)
  · obtain ⟨i, rfl, q⟩ := h
    rfl
  · obtain ⟨i, rfl, q⟩ := h
    refine ⟨_, (pss_one (ps_ret (pe_and (pe_callB call_isi (by rfl) T.b_isinstance (by decide +kernel) (pa_cons (pv 0) (pa_cons (pe_bltn (v := .ty "int") (by rfl) T.b_int (by decide +kernel) rfl) pa_nil))) (pe_one (pe_not (pe_callB call_isi (by rfl) T.b_isinstance (by decide +kernel) (pa_cons (pv 0) (pa_cons (pe_bltn (v := .ty "bool") (by rfl) T.b_bool (by decide +kernel) rfl) pa_nil)))))))), ?_⟩
    walk_at "go"
    refine r_isiT (.base (.int i)) (by decide +kernel) ?_
    walk_at "go"
    refine iteT ?_
    walk_at "go"
    refine r_isiF (.base (.int i)) (by decide +kernel) ?_
    walk_at "go"
    exact q
theorem sc__law_places : FnScope ["found", "due", "one"] ["found", "due"] (defScope s__law_places) := ⟨rfl, rfl, rfl, by decide +kernel, rfl, by decide +kernel, by decide +kernel⟩
def sp__law_places (K : PySem.W.Frag) (_ : Addr) : Sp := fun vs H Q _ => ∃ (a b : Addr) (xs ys : List V), vs = [.ref a, .ref b] ∧ SqL K H a xs ∧ SqL K H b ys ∧ xs.all okV = true ∧ ys.all okV = true ∧ Q (.bl (decide (xs = ys))) H
theorem ok__law_places {f : Addr} {fd : FuncData} (F : Fun K "_law_places" "_law_places" s__law_places f fd) (T : Txt K mg C) (c__law_whole : C8.Cal P w K mg base 1 "_law_whole" (sp__law_whole K C) []) : FnOk P w K mg base CX0 2 f fd ["found", "due"] (sp__law_places K C) := by
  refine F.ok sc__law_places (fun vs H Q E h => ?_) (fun cdv A outer s H vs Q E hr h => ?_)
  · obtain ⟨a, b, xs, ys, rfl, h1, h2, o1, o2, q⟩ := h
    rfl
  · obtain ⟨a, b, xs, ys, rfl, h1, h2, o1, o2, q⟩ := h
    refine ⟨_, (pss_cons (ps_if (PW.pt (pw_or (pt_not (pt_val (pe_callB call_isi (by rfl) T.b_isinstance (by decide +kernel) (pa_cons (pv 0) (pa_cons (pe_bltn (v := .ty "list") (by rfl) T.b_list (by decide +kernel) rfl) pa_nil))))) (pw_or1 (pt_cmpR op_ne (pe_callB c_len (by rfl) T.b_len PySem.boot_len (pa_cons (pv 0) pa_nil)) (pe_callB c_len (by rfl) T.b_len PySem.boot_len (pa_cons (pv 1) pa_nil)) (nomark _))))) (pss_one (ps_ret pe_bl)) pss_nil)
      (pss_cons (ps_for PassesOwn.never rfl (pi_list (pv 0)) (pg_name (i := 2) sc__law_places.nd rfl (by first | exact Or.inl rfl | exact Or.inr rfl)) (pss_one (ps_if (PW.pt (pw_and (pt_cmpR o_notN (pv 2) pe_non (nomark _)) (pw_and1 (pt_not (pt_val (C8.pe_c c__law_whole hr (by decide) rfl (pa_cons (pv 2) pa_nil))))))) (pss_one (ps_ret pe_bl)) pss_nil)))
      (pss_one (ps_ret (pe_cmpR (op_eqD hr.units) (pv 0) (pv 1) (nomark _)))))), ?_⟩
    walk_at "go"
    walk_at "andor"
    walk_at "go"
    refine r_isiT (tyX_sq h1) (by decide +kernel) ?_
    walk_at "go"
    refine iteF ?_
    walk_at "go"
    refine brN (fun c => ?_) (fun c => ?_)
    · walk_at "go"
      have e : xs ≠ ys := fun z => c (by rw [z])
      rw [decide_eq_false e] at q
      exact q
    · walk_at "go"
      refine r_loopL (xs := xs) (fun i σ H' => H' = H ∧ ∃ v, σ = [some (.ref a), some (.ref b), v]) ⟨rfl, _, rfl⟩ (fun i σ H' _ hp => hp.1 ▸ h1) ?_ ?_
      · rintro i z σ H' hz ⟨rfl, v, rfl⟩
        have hzo : okV z = true := List.all_eq_true.mp o1 z (List.mem_of_getElem? hz)
        walk_at "go"
        walk_at "andor"
        walk_at "go"
        cases z with
        | non =>
          refine brNF rfl ?_
          refine iteF ?_
          walk_at "go"
          exact ⟨rfl, _, rfl⟩
        | int i =>
          refine brNT (by intro h; cases h) ?_
          walk_at "go"
          refine ⟨i, rfl, ?_⟩
          walk_at "go"
          refine iteF ?_
          walk_at "go"
          exact ⟨rfl, _, rfl⟩
        | bl _ => cases hzo
        | str _ => cases hzo
        | byt _ => cases hzo
        | flt _ => cases hzo
        | ref _ => cases hzo
        | ty _ => cases hzo
      · rintro σ H' ⟨rfl, v, rfl⟩
        walk_at "go"
        exact r_eqL h1 h2 o1 o2 q
/-- what stands over a place, put by places further, under top -/
def movO (by' top : Nat) : Option Nat → V
  | none => .int (top : Int)
  | some q => .int ((q : Int) + (by' : Int))
def movL (t : BT) (by' top i : Nat) : List V := ((t.code 0 none).take i).map (movO by' top)
theorem code_move : ∀ (t : BT) (f k h : Nat) (top : Option Nat), (t.code (k + f) (some (match top with | none => h | some q => k + q))).map oV = (t.code f top).map (movO k h)
  | .nil, _, _, _, _ => rfl
  | .node l r, f, k, h, top => by
    have il := code_move l f k h (some (f + l.size))
    have ir := code_move r (f + l.size + 1) k h (some (f + l.size))
    show (l.code (k + f) (some (k + f + l.size)) ++ some _ :: r.code (k + f + l.size + 1) (some (k + f + l.size))).map oV = (l.code f (some (f + l.size)) ++ top :: r.code (f + l.size + 1) (some (f + l.size))).map (movO k h)
    rw [List.map_append, List.map_cons, List.map_append, List.map_cons, ← il, ← ir]
    show (l.code (k + f) (some (k + f + l.size))).map oV ++ _ = (l.code (k + f) (some (k + (f + l.size)))).map oV ++ movO k h top :: (r.code (k + (f + l.size + 1)) (some (k + (f + l.size)))).map oV
    rw [show k + (f + l.size) = k + f + l.size by omega, show k + (f + l.size + 1) = k + f + l.size + 1 by omega]
    congr 2
    cases top with
    | none => rfl
    | some q =>
      show V.int ((k + q : Nat) : Int) = V.int ((q : Int) + (k : Int))
      rw [show ((k + q : Nat) : Int) = (q : Int) + (k : Int) by omega]
theorem movL_all (t : BT) (by' top : Nat) : movL t by' top t.size = t.codeV by' (some top) := by
  unfold movL BT.codeV
  rw [List.take_of_length_le (by rw [BT.code_len]; exact Nat.le_refl _), ← code_move t 0 by' top none, Nat.add_zero]
theorem movL_more {t : BT} {by' top i : Nat} {x : Option Nat} (h : (t.code 0 none)[i]? = some x) : movL t by' top (i + 1) = movL t by' top i ++ [movO by' top x] := by
  unfold movL
  rw [take_more h, List.map_append]
  rfl
theorem sc__law_moved : FnScope ["tree", "by", "top", "one"] ["tree", "by", "top"] (defScope s__law_moved) := ⟨rfl, rfl, rfl, by decide +kernel, rfl, by decide +kernel, by decide +kernel⟩
def sp__law_moved (_ : PySem.W.Frag) (_ : Addr) : Sp := fun vs H Q _ => ∃ (a : Addr) (t : BT) (by' top : Nat), vs = [.ref a, .int (by' : Int), .int (top : Int)] ∧ H a = some (.lst (t.codeV 0 none)) ∧ t.size ≤ 63 ∧
  ∀ (x : Addr) (H' : Hp), H x = none → Same H H' → H' x = some (.lst (t.codeV by' (some top))) → Q (.ref x) H'
theorem ok__law_moved {f : Addr} {fd : FuncData} (F : Fun K "_law_moved" "_law_moved" s__law_moved f fd) (T : Txt K mg C)  : FnOk P w K mg base CX0 1 f fd ["tree", "by", "top"] (sp__law_moved K C) := by
  refine F.ok sc__law_moved (fun vs H Q E h => ?_) (fun cdv A outer s H vs Q E hr h => ?_)
  · obtain ⟨a, t, by', top, rfl, hS, hn, q⟩ := h
    rfl
  · obtain ⟨a, t, by', top, rfl, hS, hn, q⟩ := h
    refine ⟨_, (pss_one (ps_ret (pe_lc (own := [("one", 3)]) (g := gName 3) (tt := tYes) rfl sc__law_moved.nd (pi_list (pv 0)) (blkOk_by (own := [("one", 3)]) (N := ["tree", "by", "top", "one"]) (sc := (defScope s__law_moved)) (by decide +kernel)) (fun _ _ _ _ _ => pg_name (i := 3) sc__law_moved.nd rfl (by first | exact Or.inl rfl | exact Or.inr rfl)) (fun _ _ _ _ _ => pts_nil) (fun _ _ _ _ _ => (pe_ifExp (pt_cmpR o_isN (pv 3) pe_non (nomark _)) (pv 2) (pe_op op_add (pv 3) (pv 1))))))), ?_⟩
    have hvl := BT.codeV_len t 0 none
    walk_at "go"
    refine r_LcL (xs := t.codeV 0 none) (VT.SqL.lst hS) (movL t by' top) rfl (fun i _ => by unfold movL; rw [List.length_map, List.length_take, BT.code_len]; omega) (fun _ => rfl) (fun i y H' N Z hi s hN hZ => ?_) (fun D H1 nD s1 hD => ?_)
    · unfold BT.codeV at hi
      rw [List.getElem?_map] at hi
      cases hx : (t.code 0 none)[i]? with
      | none => rw [hx] at hi; cases hi
      | some x =>
        rw [hx] at hi
        obtain rfl := Option.some.inj hi
        walk_at "go"
        refine iteT ?_
        walk_at "go"
        cases x with
        | none =>
          refine iteT ?_
          walk_at "go"
          exact hN _ _ (Same.refl _) (movL_more hx)
        | some q2 =>
          refine brF (by intro h; cases h) ?_
          replace hN := hN (.int ((q2 : Int) + (by' : Int))) H' (Same.refl _) (movL_more hx)
          refine r_op ?_
          refine r_var (v := .int (q2 : Int)) rfl ?_
          walk_at "go"
          exact hN
    rw [hvl, movL_all] at hD
    exact q D H1 nD s1 hD
/-- the trees of s places in their order, the first m of them -/
def TreesAt (P : Addr → Prop) (H : Hp) (s m : Nat) (vs : List V) : Prop := vs.length = m ∧ ∀ (i : Nat) (v : V), vs[i]? = some v → ∃ (a : Addr) (t : BT), v = .ref a ∧ H a = some (.lst (t.codeV 0 none)) ∧ P a ∧ t.size = s ∧ t.rank = i
theorem TreesAt.mono {P P' : Addr → Prop} {H H' : Hp} {s m : Nat} {vs : List V} (h : TreesAt P H s m vs) (e : ∀ a o, P a → H a = some o → H' a = some o) (p : ∀ a o, P a → H a = some o → P' a) : TreesAt P' H' s m vs :=
  ⟨h.1, fun i v hv => by
    obtain ⟨a, t, e1, e2, e3, e4, e5⟩ := h.2 i v hv
    exact ⟨a, t, e1, e a _ e3 e2, p a _ e3 e2, e4, e5⟩⟩
theorem TreesAt.snoc {P : Addr → Prop} {H : Hp} {s m : Nat} {vs : List V} {a : Addr} {t : BT} (h : TreesAt P H s m vs) (ha : H a = some (.lst (t.codeV 0 none))) (hp : P a) (hs : t.size = s) (hr : t.rank = m) : TreesAt P H s (m + 1) (vs ++ [.ref a]) :=
  ⟨by rw [List.length_append, h.1] <;> rfl, fun i v hv => by
    by_cases c : i < vs.length
    · rw [List.getElem?_append_left c] at hv
      exact h.2 i v hv
    · rw [List.getElem?_append_right (by omega)] at hv
      have ei : i = m := by
        have := (List.getElem?_eq_some_iff.mp hv).1
        rw [List.length_singleton] at this
        have := h.1
        omega
      subst ei
      rw [h.1, Nat.sub_self] at hv
      exact ⟨a, t, (Option.some.inj hv).symm, ha, hp, hs, hr⟩⟩
/-- the lists of trees, by their sizes -/
def FoundAt (fd : Addr) (H : Hp) (n : Nat) (ws : List V) : Prop := ws.length = n ∧ ∀ (k : Nat) (v : V), ws[k]? = some v → ∃ (a : Addr) (vs : List V), v = .ref a ∧ H a = some (.lst vs) ∧ a ≠ fd ∧ TreesAt (fun b => b ≠ fd) H k (cat k) vs
theorem FoundAt.mono {fd : Addr} {H H' : Hp} {n : Nat} {ws : List V} (h : FoundAt fd H n ws) (e : But fd H H') : FoundAt fd H' n ws :=
  ⟨h.1, fun k v hv => by
    obtain ⟨a, vs, e1, e2, e3, e4⟩ := h.2 k v hv
    exact ⟨a, vs, e1, e a _ e2 e3, e3, e4.mono (fun b o hb ho => e b o ho hb) (fun _ _ hb _ => hb)⟩⟩
theorem FoundAt.snoc {fd a : Addr} {H : Hp} {n : Nat} {ws vs : List V} (h : FoundAt fd H n ws) (ha : H a = some (.lst vs)) (na : a ≠ fd) (ht : TreesAt (fun b => b ≠ fd) H n (cat n) vs) : FoundAt fd H (n + 1) (ws ++ [.ref a]) :=
  ⟨by rw [List.length_append, h.1] <;> rfl, fun k v hv => by
    by_cases c : k < ws.length
    · rw [List.getElem?_append_left c] at hv
      exact h.2 k v hv
    · rw [List.getElem?_append_right (by omega)] at hv
      have ei : k = n := by
        have := (List.getElem?_eq_some_iff.mp hv).1
        rw [List.length_singleton] at this
        have := h.1
        omega
      subst ei
      rw [h.1, Nat.sub_self] at hv
      exact ⟨a, vs, (Option.some.inj hv).symm, ha, na, ht⟩⟩
theorem FoundAt.get {fd : Addr} {H : Hp} {n k : Nat} {ws : List V} (h : FoundAt fd H n ws) (hk : k < n) : ∃ (a : Addr) (vs : List V), ws[k]? = some (.ref a) ∧ H a = some (.lst vs) ∧ a ≠ fd ∧ TreesAt (fun b => b ≠ fd) H k (cat k) vs := by
  have hl : k < ws.length := by
    have := h.1
    omega
  obtain ⟨a, vs, e1, e2, e3, e4⟩ := h.2 k _ (List.getElem?_eq_getElem hl)
  exact ⟨a, vs, by rw [List.getElem?_eq_getElem hl, e1], e2, e3, e4⟩
theorem cat_six : ∀ s, s < 7 → cat s ≤ 132 := by decide
theorem sc__law_trees : FnScope ["most", "found", "size", "some", "top", "ahead", "behind"] ["most"] (defScope s__law_trees) := ⟨rfl, rfl, rfl, by decide +kernel, rfl, by decide +kernel, by decide +kernel⟩
def sp__law_trees (_ : PySem.W.Frag) (_ : Addr) : Sp := fun vs H Q _ => ∃ (n : Nat), vs = [.int (n : Int)] ∧ n ≤ 6 ∧ ∀ (x : Addr) (vs : List V) (H' : Hp), Same H H' → H' x = some (.lst vs) → TreesAt (fun _ => True) H' n (cat n) vs → Q (.ref x) H'
theorem ok__law_trees {f : Addr} {fd : FuncData} (F : Fun K "_law_trees" "_law_trees" s__law_trees f fd) (T : Txt K mg C) (c__law_moved : C8.Cal P w K mg base 1 "_law_moved" (sp__law_moved K C) []) : FnOk P w K mg base CX0 2 f fd ["most"] (sp__law_trees K C) := by
  refine F.ok sc__law_trees (fun vs H Q E h => ?_) (fun cdv A outer s H vs Q E hr h => ?_)
  · obtain ⟨n, rfl, hn, q⟩ := h
    rfl
  · obtain ⟨n, rfl, hn, q⟩ := h
    refine ⟨_, (pss_cons (ps_set (i := 1) sc__law_trees.nd rfl (by first | exact Or.inl rfl | exact Or.inr rfl) (pe_lst (pa_cons (pe_lst (pa_cons (pe_lst pa_nil) pa_nil)) pa_nil)))
      (pss_cons (ps_for PassesOwn.never rfl (pi_range2 (by rfl) T.b_range (pa_cons pe_int (pa_cons (pe_op op_add (pv 0) pe_int) pa_nil))) (pg_name (i := 2) sc__law_trees.nd rfl (by first | exact Or.inl rfl | exact Or.inr rfl)) (pss_cons (ps_set (i := 3) sc__law_trees.nd rfl (by first | exact Or.inl rfl | exact Or.inr rfl) (pe_lst pa_nil))
      (pss_cons (ps_for PassesOwn.never rfl (pi_range1 (by rfl) T.b_range (pa_cons (pv 2) pa_nil)) (pg_name (i := 4) sc__law_trees.nd rfl (by first | exact Or.inl rfl | exact Or.inr rfl)) (pss_one (ps_for PassesOwn.never rfl (pi_list (pe_ix ix_list (pv 1) (pv 4) (fun _ _ => rfl))) (pg_name (i := 5) sc__law_trees.nd rfl (by first | exact Or.inl rfl | exact Or.inr rfl)) (pss_one (ps_for PassesOwn.never rfl (pi_list (pe_ix ix_list (pv 1) (pe_op op_sub (pe_op op_sub (pv 2) pe_int) (pv 4)) (fun _ _ => rfl))) (pg_name (i := 6) sc__law_trees.nd rfl (by first | exact Or.inl rfl | exact Or.inr rfl)) (pss_one (ps_expr (pe_bm PySem.F.plainAttrs_list PySem.F.slot_list_append PySem.F.type_list_append mt_append (pv 3) (pa_cons (pe_op op_cat (pe_op op_cat (C8.pe_c c__law_moved hr (by decide) rfl (pa_cons (pv 5) (pa_cons pe_int (pa_cons (pv 4) pa_nil)))) (pe_lst (pa_cons pe_non pa_nil))) (C8.pe_c c__law_moved hr (by decide) rfl (pa_cons (pv 6) (pa_cons (pe_op op_add (pv 4) pe_int) (pa_cons (pv 4) pa_nil))))) pa_nil)))))))))
      (pss_one (ps_expr (pe_bm PySem.F.plainAttrs_list PySem.F.slot_list_append PySem.F.type_list_append mt_append (pv 1) (pa_cons (pv 3) pa_nil)))))))
      (pss_one (ps_ret (pe_ix ix_list (pv 1) (pv 0) (fun _ _ => rfl)))))), ?_⟩
    walk_at "go"
    intro e0 ne0
    have sA := same_new ne0 (.lst [])
    have hE := @upd_same H e0 (.lst [])
    generalize upd H e0 (.lst []) = H1 at sA hE
    walk_at "go"
    intro e1 ne1
    have sB := sA.trans (same_new ne1 (.lst [V.ref e0]))
    have hE1 := same_new ne1 (.lst [V.ref e0]) _ _ hE
    have hF1 := @upd_same H1 e1 (.lst [V.ref e0])
    generalize upd H1 e1 (.lst [V.ref e0]) = H2 at sB hE1 hF1
    walk_at "go"
    intro fd nfd
    have fr := sB.free nfd
    have n0 : e0 ≠ fd := ne_of_none hE1 nfd
    have n1 : e1 ≠ fd := ne_of_none hF1 nfd
    have hE2 := up_get (u := .lst [V.ref e1]) n0 hE1
    have hF2 := up_get (u := .lst [V.ref e1]) n1 hF1
    have hFd := @upd_same H2 fd (.lst [V.ref e1])
    have sC := sB.trans (same_new nfd (.lst [V.ref e1]))
    generalize upd H2 fd (.lst [V.ref e1]) = H3 at hE2 hF2 hFd sC
    walk_at "go"
    have fnd0 : FoundAt fd H3 0 [] := ⟨rfl, fun k v h => by cases h⟩
    have tr0 : TreesAt (fun b => b ≠ fd) H3 0 0 [] := ⟨rfl, fun k v h => by cases h⟩
    have tr1 := tr0.snoc (a := e0) (t := .nil) hE2 n0 rfl rfl
    refine r_loopR (fun i σ H' => ∃ (ws : List V) (v2 v3 v4 v5 v6 : Option V), σ = [some (.int (n : Int)), some (.ref fd), v2, v3, v4, v5, v6] ∧ Same H H' ∧ H' fd = some (.lst ws) ∧ FoundAt fd H' (i + 1) ws) ⟨_, _, _, _, _, _, rfl, sC, hFd, fnd0.snoc hF2 n1 tr1⟩ ?_ ?_
    · rintro i σ H4 hi ⟨ws, v2, v3, v4, v5, v6, rfl, s4, hFd4, hFo⟩
      have hil : i < n := by omega
      walk_at "go"
      intro sm nsm
      have nsf : fd ≠ sm := ne_of_none hFd4 nsm
      have hSm := @upd_same H4 sm (.lst [])
      have sD := same_new nsm (.lst [])
      have hwl := hFo.1
      have hc6 := cat_six (i + 1) (by omega)
      have hcr := cat_rec (s := i + 1) (by omega) (by omega)
      walk_at "go"
      refine r_loop0 (fun j σ H' => ∃ (vs : List V) (v4 v5 v6 : Option V), σ = [some (.int (n : Int)), some (.ref fd), some (.int (1 + (i : Int))), some (.ref sm), v4, v5, v6] ∧ Same H4 H' ∧ H' sm = some (.lst vs) ∧ TreesAt (fun b => b ≠ sm ∧ b ≠ fd) H' (i + 1) (upto (i + 1) j) vs) ⟨[], _, _, _, rfl, sD, hSm, rfl, fun k v h => by cases h⟩ ?_ ?_
      · rintro j σ H5 hj ⟨vs, v4, v5, v6, rfl, s5, hSm5, hT5⟩
        have hj' : j < i + 1 := by omega
        obtain ⟨fa, As, hfa, hA, nfa, hAt⟩ := hFo.get (k := j) hj'
        obtain ⟨fb, Bs, hfb, hB, nfb, hBt⟩ := hFo.get (k := i - j) (by omega)
        have hFd5 := s5 _ _ hFd4
        have hA5 := s5 _ _ hA
        have hup := upto_mono (i + 1) (a := j + 1) (b := i + 1) (by omega)
        have hus : upto (i + 1) (j + 1) = upto (i + 1) j + cat j * cat (i - j) := by
          show upto (i + 1) j + cat j * cat (i + 1 - 1 - j) = _
          rw [show i + 1 - 1 - j = i - j by omega]
        walk_at "go"
        refine r_loopL (xs := As) (fun ia σ H' => ∃ (vs : List V) (v5 v6 : Option V), σ = [some (.int (n : Int)), some (.ref fd), some (.int (1 + (i : Int))), some (.ref sm), some (.int (j : Int)), v5, v6] ∧ Same H4 H' ∧ H' sm = some (.lst vs) ∧ TreesAt (fun b => b ≠ sm ∧ b ≠ fd) H' (i + 1) (upto (i + 1) j + ia * cat (i - j)) vs) ⟨vs, _, _, rfl, s5, hSm5, by rw [Nat.zero_mul, Nat.add_zero]; exact hT5⟩ (fun ia σ H' _ e => ?_) ?_ ?_
        · obtain ⟨_, _, _, _, s, _, _⟩ := e
          exact VT.SqL.lst (s _ _ hA)
        · rintro ia x σ H6 hx ⟨vs, v5, v6, rfl, s6, hSm6, hT6⟩
          obtain ⟨la, tl, rfl, hla, nla, htl, hrl⟩ := hAt.2 ia x hx
          have hial : ia < cat j := by
            have := (List.getElem?_eq_some_iff.mp hx).1
            have := hAt.1
            omega
          have hFd6 := s6 _ _ hFd4
          have hB6 := s6 _ _ hB
          have hmul : (ia + 1) * cat (i - j) ≤ cat j * cat (i - j) := Nat.mul_le_mul_right _ hial
          rw [Nat.succ_mul] at hmul
          walk_at "go"
          try refine r_ixL (VT.SqL.lst hFd6) (r_at (j := i - j) (by omega) hfb) ?_
          walk_at "go"
          refine r_loopL (xs := Bs) (fun ib σ H' => ∃ (vs : List V) (v6 : Option V), σ = [some (.int (n : Int)), some (.ref fd), some (.int (1 + (i : Int))), some (.ref sm), some (.int (j : Int)), some (.ref la), v6] ∧ Same H4 H' ∧ H' sm = some (.lst vs) ∧ TreesAt (fun b => b ≠ sm ∧ b ≠ fd) H' (i + 1) (upto (i + 1) j + ia * cat (i - j) + ib) vs) ⟨vs, _, rfl, s6, hSm6, hT6⟩ (fun ib σ H' _ e => ?_) ?_ ?_
          · obtain ⟨_, _, _, s, _, _⟩ := e
            exact VT.SqL.lst (s _ _ hB)
          · rintro ib y σ H7 hy ⟨vs, v6, rfl, s7, hSm7, hT7⟩
            obtain ⟨lb, tr, rfl, hlb, nlb, htr, hrr⟩ := hBt.2 ib y hy
            have hibl : ib < cat (i - j) := by
              have := (List.getElem?_eq_some_iff.mp hy).1
              have := hBt.1
              omega
            have hvl := hT7.1
            walk_at "go"
            refine ⟨la, tl, 0, j, rfl, s7 _ _ hla, by omega, fun x1 H8 nx1 s8 hx1 => ?_⟩
            walk_at "go"
            intro x2 nx2
            have s9 := s8.trans (same_new nx2 (.lst [V.non]))
            have hx19 := same_new nx2 (.lst [V.non]) _ _ hx1
            have hx29 := @upd_same H8 x2 (.lst [V.non])
            generalize upd H8 x2 (.lst [V.non]) = H9 at s9 hx19 hx29
            refine r_cat hx19 hx29 (by rw [BT.codeV_len]; show tl.size + 1 ≤ _; omega) fun x3 nx3 => ?_
            have s10 := s9.trans (same_new nx3 (.lst (tl.codeV 0 (some j) ++ [V.non])))
            have hx310 := @upd_same H9 x3 (.lst (tl.codeV 0 (some j) ++ [V.non]))
            generalize upd H9 x3 (.lst (tl.codeV 0 (some j) ++ [V.non])) = H10 at s10 hx310
            walk_at "go"
            refine ⟨lb, tr, j + 1, j, by rw [show ((j + 1 : Nat) : Int) = (j : Int) + 1 by omega] <;> rfl, s10 _ _ (s7 _ _ hlb), by omega, fun x4 H11 nx4 s11 hx4 => ?_⟩
            have hx311 := s11 _ _ hx310
            refine r_cat hx311 hx4 (by rw [List.length_append, BT.codeV_len, BT.codeV_len]; show tl.size + 1 + tr.size ≤ _; omega) fun x5 nx5 => ?_
            have ecode : tl.codeV 0 (some j) ++ [V.non] ++ tr.codeV (j + 1) (some j) = (BT.node tl tr).codeV 0 none := by
              rw [BT.codeV_node, Nat.zero_add, htl, List.append_assoc]
              rfl
            rw [ecode]
            have s12 := (s10.trans s11).trans (same_new nx5 (.lst ((BT.node tl tr).codeV 0 none)))
            have hx5 := @upd_same H11 x5 (.lst ((BT.node tl tr).codeV 0 none))
            have nx5s : x5 ≠ sm := fun z => by
              have := (s10.trans s11) _ _ hSm7
              rw [← z, nx5] at this
              cases this
            have nx5f : x5 ≠ fd := fun z => by
              have := (s10.trans s11) _ _ (s7 _ _ hFd4)
              rw [← z, nx5] at this
              cases this
            generalize upd H11 x5 (.lst ((BT.node tl tr).codeV 0 none)) = H12 at s12 hx5
            have hSm12 := s12 _ _ hSm7
            walk_at "go"
            try refine r_app hSm12 (by omega) ?_
            refine ⟨_, _, rfl, same_mut (s7.trans s12) nsm, upd_same, ?_⟩
            have hT12 := (hT7.mono (fun b o _ ho => s12 b o ho) (fun _ _ hb _ => hb)).snoc (a := x5) (t := .node tl tr) hx5 ⟨nx5s, nx5f⟩ (by show tl.size + 1 + tr.size = i + 1; omega) (by
              show upto (tl.size + 1 + tr.size) tl.size + tl.rank * cat tr.size + tr.rank = _
              rw [htl, htr, hrl, hrr, show j + 1 + (i - j) = i + 1 by omega])
            exact hT12.mono (fun b o hb ho => up_get hb.1 ho) (fun _ _ hb _ => hb)
          · rintro σ H7 ⟨vs, v6, rfl, s7, hSm7, hT7⟩
            rw [hBt.1, Nat.add_assoc, ← Nat.succ_mul] at hT7
            exact ⟨vs, _, _, rfl, s7, hSm7, hT7⟩
        · rintro σ H6 ⟨vs, v5, v6, rfl, s6, hSm6, hT6⟩
          rw [hAt.1, ← hus] at hT6
          exact ⟨vs, _, _, _, rfl, s6, hSm6, hT6⟩
      · rintro σ H5 ⟨vs, v4, v5, v6, rfl, s5, hSm5, hT5⟩
        rw [show ((1 : Int) + (i : Int)).toNat = i + 1 by omega, hcr] at hT5
        have hFd5 := s5 _ _ hFd4
        walk_at "go"
        try refine r_app hFd5 (by omega) ?_
        have hFo5 := (hFo.mono (But.of s5)).snoc hSm5 nsf.symm (hT5.mono (fun _ _ _ ho => ho) (fun _ _ hb _ => hb.2))
        exact ⟨_, _, _, _, _, _, rfl, same_mut (s4.trans s5) fr, upd_same, hFo5.mono (But.of (Same.refl _)).up⟩
    · rintro σ H4 ⟨ws, v2, v3, v4, v5, v6, rfl, s4, hFd4, hFo⟩
      rw [show ((n : Int) + 1 - 1).toNat = n by omega] at hFo
      obtain ⟨fa, As, hfa, hA, nfa, hAt⟩ := hFo.get (k := n) (by omega)
      walk_at "go"
      try refine r_ixL (VT.SqL.lst hFd4) (atI_nat hfa) ?_
      exact q fa As H4 s4 hA (hAt.mono (fun _ _ _ ho => ho) (fun _ _ _ _ => trivial))
theorem sc_law : FnScope ["script", "size", "due", "many", "n", "found", "told"] ["script"] (defScope s_law) := ⟨rfl, rfl, rfl, by decide +kernel, rfl, by decide +kernel, by decide +kernel⟩
def sp_law (K : PySem.W.Frag) (_ : Addr) : Sp := fun vs H Q _ => ∃ (a : Addr) (ns : List Int), vs = [.ref a] ∧ SqL K H a (ns.map V.int) ∧ ns.length ≤ 63 ∧ ∀ H', Q (.bl true) H'
theorem law_in {K : PySem.W.Frag} {H : Hp} {a : Addr} {ns : List Int} {E : XK} (hS : SqL K H a (ns.map V.int)) (hl : ns.length ≤ 63) : sp_law K 0 [.ref a] H (fun v _ => v = .bl true) E := ⟨a, ns, rfl, hS, hl, fun _ => rfl⟩
theorem ok_law {f : Addr} {fd : FuncData} (F : Fun K "law" "law" s_law f fd) (T : Txt K mg C) (c_tree_at : C8.Cal P w K mg base 43 "tree_at" (sp_tree_at K C) []) (c__law_whole : C8.Cal P w K mg base 1 "_law_whole" (sp__law_whole K C) []) (c_tree_number : C8.Cal P w K mg base 46 "tree_number" (sp_tree_number K C) []) (c__law_places : C8.Cal P w K mg base 2 "_law_places" (sp__law_places K C) []) (c_many_trees : C8.Cal P w K mg base 2 "many_trees" (sp_many_trees K C) []) (c__law_trees : C8.Cal P w K mg base 2 "_law_trees" (sp__law_trees K C) []) (c__law_cell_at : C8.Cal P w K mg base 1 "_law_cell_at" (sp__law_cell_at K C) []) : FnOk P w K mg base CX0 47 f fd ["script"] (sp_law K C) := by
  refine F.ok sc_law (fun vs H Q E h => ?_) (fun cdv A outer s H vs Q E hr h => ?_)
  · obtain ⟨a, ns, rfl, hS, hl, k⟩ := h
    rfl
  · obtain ⟨a, ns, rfl, hS, hl, k⟩ := h
    refine ⟨_, (pss_cons (ps_set (i := 1) sc_law.nd rfl (by first | exact Or.inl rfl | exact Or.inr rfl) (pe_op op_add pe_int (pe_op op_mod (C8.pe_c c__law_cell_at hr (by decide) rfl (pa_cons (pv 0) (pa_cons pe_int pa_nil))) pe_int)))
      (pss_cons (ps_set (i := 2) sc_law.nd rfl (by first | exact Or.inl rfl | exact Or.inr rfl) (C8.pe_c c__law_trees hr (by decide) rfl (pa_cons (pv 1) pa_nil)))
      (pss_cons (ps_set (i := 3) sc_law.nd rfl (by first | exact Or.inl rfl | exact Or.inr rfl) (C8.pe_c c_many_trees hr (by decide) rfl (pa_cons (pv 1) pa_nil)))
      (pss_cons (ps_if (PW.pt (pw_or (pt_not (pt_val (C8.pe_c c__law_whole hr (by decide) rfl (pa_cons (pv 3) pa_nil)))) (pw_or1 (pt_cmpR op_ne (pv 3) (pe_callB c_len (by rfl) T.b_len PySem.boot_len (pa_cons (pv 2) pa_nil)) (nomark _))))) (pss_one (ps_ret pe_bl)) pss_nil)
      (pss_cons (ps_for PassesOwn.never rfl (pi_range1 (by rfl) T.b_range (pa_cons (pe_callB c_len (by rfl) T.b_len PySem.boot_len (pa_cons (pv 2) pa_nil)) pa_nil)) (pg_name (i := 4) sc_law.nd rfl (by first | exact Or.inl rfl | exact Or.inr rfl)) (pss_cons (ps_set (i := 5) sc_law.nd rfl (by first | exact Or.inl rfl | exact Or.inr rfl) (C8.pe_c c_tree_at hr (by decide) rfl (pa_cons (pv 1) (pa_cons (pv 4) pa_nil))))
      (pss_cons (ps_if (pt_not (pt_val (C8.pe_c c__law_places hr (by decide) rfl (pa_cons (pv 5) (pa_cons (pe_ix ix_list (pv 2) (pv 4) (fun _ _ => rfl)) pa_nil))))) (pss_one (ps_ret pe_bl)) pss_nil)
      (pss_cons (ps_set (i := 6) sc_law.nd rfl (by first | exact Or.inl rfl | exact Or.inr rfl) (C8.pe_c c_tree_number hr (by decide) rfl (pa_cons (pe_callTy c_listOf (by rfl) T.b_list (by decide +kernel) (pa_cons (pe_ix ix_list (pv 2) (pv 4) (fun _ _ => rfl)) pa_nil)) pa_nil)))
      (pss_cons (ps_if (PW.pt (pw_or (pt_not (pt_val (C8.pe_c c__law_whole hr (by decide) rfl (pa_cons (pv 6) pa_nil)))) (pw_or1 (pt_cmpR op_ne (pv 6) (pv 4) (nomark _))))) (pss_one (ps_ret pe_bl)) pss_nil)
      (pss_cons (ps_expr (pe_bm PySem.F.plainAttrs_list PySem.F.slot_list_append PySem.F.type_list_append mt_append (pv 5) (pa_cons pe_int pa_nil)))
      (pss_one (ps_if (pt_cmpR (op_neD hr.units) (C8.pe_c c_tree_at hr (by decide) rfl (pa_cons (pv 1) (pa_cons (pv 4) pa_nil))) (pe_ix ix_list (pv 2) (pv 4) (fun _ _ => rfl)) (nomark _)) (pss_one (ps_ret pe_bl)) pss_nil))))))))
      (pss_one (ps_ret pe_bl))))))), ?_⟩
    walk_at "go"
    refine ⟨a, ns, 0, rfl, hS, by omega, ?_⟩
    generalize ns.getD (0 : Int).toNat 0 = c0
    walk_at "go"
    have z0 := Int.emod_nonneg c0 (show (6 : Int) ≠ 0 by decide)
    have z1 := Int.emod_lt_of_pos c0 (show (0 : Int) < 6 by decide)
    obtain ⟨sz, hsz⟩ : ∃ n : Nat, 1 + c0 % 6 = (n : Int) := ⟨(1 + c0 % 6).toNat, by omega⟩
    rw [hsz]
    walk_at "go"
    refine ⟨sz, rfl, by omega, fun du vs H1 s1 hdu hT => ?_⟩
    walk_at "go"
    refine ⟨sz, rfl, by omega, by omega, fun H2 s2 => ?_⟩
    have hdu2 := s2 _ _ hdu
    have hc6 := cat_six sz (by omega)
    have hvl := hT.1
    walk_at "go"
    walk_at "andor"
    walk_at "go"
    refine ⟨_, rfl, ?_⟩
    walk_at "go"
    refine iteF ?_
    walk_at "go"
    refine brNF (by omega) ?_
    walk_at "go"
    refine r_loop0 (fun i σ H' => ∃ (v4 v5 v6 : Option V), σ = [some (.ref a), some (.int (sz : Int)), some (.ref du), some (.int (cat sz : Int)), v4, v5, v6] ∧ Same H2 H') ⟨_, _, _, rfl, Same.refl _⟩ ?_ ?_
    · rintro i σ H3 hi ⟨v4, v5, v6, rfl, s3⟩
      have hil : i < vs.length := by omega
      obtain ⟨ta, t, hta, hTa, _, hts, htr⟩ := hT.2 i _ (List.getElem?_eq_getElem hil)
      have hix : vs[i]? = some (.ref ta) := by rw [List.getElem?_eq_getElem hil, hta]
      have hdu3 := s3 _ _ hdu2
      have hTa3 := s3 _ _ (s2 _ _ hTa)
      walk_at "go"
      refine ⟨t, by rw [hts, htr] <;> rfl, by omega, by omega, fun f H4 nf s4 hf => ?_⟩
      have hdu4 := s4 _ _ hdu3
      have hTa4 := s4 _ _ hTa3
      walk_at "go"
      refine ⟨f, ta, t.codeV 0 none, t.codeV 0 none, rfl, VT.SqL.lst hf, VT.SqL.lst hTa4, BT.codeV_ok _ _ _, BT.codeV_ok _ _ _, ?_⟩
      rw [decide_eq_true rfl]
      walk_at "go"
      refine iteF ?_
      walk_at "go"
      refine r_listOf (VT.SqL.lst hTa4) fun g ng => ?_
      have sG := same_new ng (.lst (t.codeV 0 none))
      walk_at "go"
      refine ⟨g, t, rfl, upd_same, by omega, by omega, fun H5 s5 => ?_⟩
      have s45 := sG.trans s5
      have hf5 := s45 _ _ hf
      walk_at "go"
      walk_at "andor"
      walk_at "go"
      refine ⟨_, rfl, ?_⟩
      walk_at "go"
      refine iteF ?_
      walk_at "go"
      refine brNF (by omega) ?_
      walk_at "go"
      try refine r_app hf5 (by rw [BT.codeV_len]; omega) ?_
      have nft : ta ≠ f := ne_of_none hTa3 nf
      have nfd : du ≠ f := ne_of_none hdu3 nf
      have hTa6 := up_get (u := .lst (t.codeV 0 none ++ [V.int 0])) nft (s45 _ _ hTa4)
      have hdu6 := up_get (u := .lst (t.codeV 0 none ++ [V.int 0])) nfd (s45 _ _ hdu4)
      have s36 : Same H3 (upd H5 f (.lst (t.codeV 0 none ++ [V.int 0]))) := same_mut (s4.trans s45) nf
      generalize upd H5 f (.lst (t.codeV 0 none ++ [V.int 0])) = H6 at hTa6 hdu6 s36
      walk_at "go"
      refine ⟨t, by rw [hts, htr] <;> rfl, by omega, by omega, fun f2 H7 nf2 s7 hf2 => ?_⟩
      have hdu7 := s7 _ _ hdu6
      walk_at "go"
      refine r_neL (VT.SqL.lst hf2) (VT.SqL.lst (s7 _ _ hTa6)) (BT.codeV_ok _ _ _) (BT.codeV_ok _ _ _) ?_
      walk_at "go"
      refine brNF rfl ?_
      walk_at "go"
      exact ⟨_, _, _, rfl, (s3.trans s36).trans s7⟩
    · rintro σ H3 ⟨v4, v5, v6, rfl, s3⟩
      walk_at "go"
      exact k _
end
theorem all_mk {l : PySem.W.OpenLaw} {w : World} {K : PySem.W.Frag} {h : Heap} {mg : Str → Option Value} {fa C : Addr} {f1 f2 f3 f4 f5 f6 f7 f8 f9 f10 f11 f12 f13 f14 f15 f16 f17 f18 : Addr} (X : K.In h) (G : h.Ns mainGlobals mg) (hfa : mg "law" = some (.ref fa))
    {od1 an1 : Option Addr} {sl1 : Array (Option Value)} {oc1 kV1 dc1 pm1 cd1 ct1 : Value}
    (a1 : PySem.W.nsIn K mainGlobals "over" = some (some (.ref f1)))
    (l1 : K.lookup f1 = some ⟨oc1, od1, .func (PySem.W.fnOf "over" "over" (defArgs s_over) (defBody s_over) (defScope s_over) .none kV1 dc1 pm1 an1 cd1 ct1), sl1⟩) (c1 : PySem.W.codeIn K cd1 "over" = true) (k1 : PySem.W.keepIn K (.ref f1) = true)
    {od2 an2 : Option Addr} {sl2 : Array (Option Value)} {oc2 kV2 dc2 pm2 cd2 ct2 : Value}
    (a2 : PySem.W.nsIn K mainGlobals "tree_over" = some (some (.ref f2)))
    (l2 : K.lookup f2 = some ⟨oc2, od2, .func (PySem.W.fnOf "tree_over" "tree_over" (defArgs s_tree_over) (defBody s_tree_over) (defScope s_tree_over) .none kV2 dc2 pm2 an2 cd2 ct2), sl2⟩) (c2 : PySem.W.codeIn K cd2 "tree_over" = true) (k2 : PySem.W.keepIn K (.ref f2) = true)
    {od3 an3 : Option Addr} {sl3 : Array (Option Value)} {oc3 kV3 dc3 pm3 cd3 ct3 : Value}
    (a3 : PySem.W.nsIn K mainGlobals "depths" = some (some (.ref f3)))
    (l3 : K.lookup f3 = some ⟨oc3, od3, .func (PySem.W.fnOf "depths" "depths" (defArgs s_depths) (defBody s_depths) (defScope s_depths) .none kV3 dc3 pm3 an3 cd3 ct3), sl3⟩) (c3 : PySem.W.codeIn K cd3 "depths" = true) (k3 : PySem.W.keepIn K (.ref f3) = true)
    {od4 an4 : Option Addr} {sl4 : Array (Option Value)} {oc4 kV4 dc4 pm4 cd4 ct4 : Value}
    (a4 : PySem.W.nsIn K mainGlobals "is_tree" = some (some (.ref f4)))
    (l4 : K.lookup f4 = some ⟨oc4, od4, .func (PySem.W.fnOf "is_tree" "is_tree" (defArgs s_is_tree) (defBody s_is_tree) (defScope s_is_tree) .none kV4 dc4 pm4 an4 cd4 ct4), sl4⟩) (c4 : PySem.W.codeIn K cd4 "is_tree" = true) (k4 : PySem.W.keepIn K (.ref f4) = true)
    {od5 an5 : Option Addr} {sl5 : Array (Option Value)} {oc5 kV5 dc5 pm5 cd5 ct5 : Value}
    (a5 : PySem.W.nsIn K mainGlobals "shapes" = some (some (.ref f5)))
    (l5 : K.lookup f5 = some ⟨oc5, od5, .func (PySem.W.fnOf "shapes" "shapes" (defArgs s_shapes) (defBody s_shapes) (defScope s_shapes) .none kV5 dc5 pm5 an5 cd5 ct5), sl5⟩) (c5 : PySem.W.codeIn K cd5 "shapes" = true) (k5 : PySem.W.keepIn K (.ref f5) = true)
    {od6 an6 : Option Addr} {sl6 : Array (Option Value)} {oc6 kV6 dc6 pm6 cd6 ct6 : Value}
    (a6 : PySem.W.nsIn K mainGlobals "many_trees" = some (some (.ref f6)))
    (l6 : K.lookup f6 = some ⟨oc6, od6, .func (PySem.W.fnOf "many_trees" "many_trees" (defArgs s_many_trees) (defBody s_many_trees) (defScope s_many_trees) .none kV6 dc6 pm6 an6 cd6 ct6), sl6⟩) (c6 : PySem.W.codeIn K cd6 "many_trees" = true) (k6 : PySem.W.keepIn K (.ref f6) = true)
    {od7 an7 : Option Addr} {sl7 : Array (Option Value)} {oc7 kV7 dc7 pm7 cd7 ct7 : Value}
    (a7 : PySem.W.nsIn K mainGlobals "build" = some (some (.ref f7)))
    (l7 : K.lookup f7 = some ⟨oc7, od7, .func (PySem.W.fnOf "build" "build" (defArgs s_build) (defBody s_build) (defScope s_build) .none kV7 dc7 pm7 an7 cd7 ct7), sl7⟩) (c7 : PySem.W.codeIn K cd7 "build" = true) (k7 : PySem.W.keepIn K (.ref f7) = true)
    {od8 an8 : Option Addr} {sl8 : Array (Option Value)} {oc8 kV8 dc8 pm8 cd8 ct8 : Value}
    (a8 : PySem.W.nsIn K mainGlobals "tree_at" = some (some (.ref f8)))
    (l8 : K.lookup f8 = some ⟨oc8, od8, .func (PySem.W.fnOf "tree_at" "tree_at" (defArgs s_tree_at) (defBody s_tree_at) (defScope s_tree_at) .none kV8 dc8 pm8 an8 cd8 ct8), sl8⟩) (c8 : PySem.W.codeIn K cd8 "tree_at" = true) (k8 : PySem.W.keepIn K (.ref f8) = true)
    {od9 an9 : Option Addr} {sl9 : Array (Option Value)} {oc9 kV9 dc9 pm9 cd9 ct9 : Value}
    (a9 : PySem.W.nsIn K mainGlobals "ask_tree" = some (some (.ref f9)))
    (l9 : K.lookup f9 = some ⟨oc9, od9, .func (PySem.W.fnOf "ask_tree" "ask_tree" (defArgs s_ask_tree) (defBody s_ask_tree) (defScope s_ask_tree) .none kV9 dc9 pm9 an9 cd9 ct9), sl9⟩) (c9 : PySem.W.codeIn K cd9 "ask_tree" = true) (k9 : PySem.W.keepIn K (.ref f9) = true)
    {od10 an10 : Option Addr} {sl10 : Array (Option Value)} {oc10 kV10 dc10 pm10 cd10 ct10 : Value}
    (a10 : PySem.W.nsIn K mainGlobals "head_of" = some (some (.ref f10)))
    (l10 : K.lookup f10 = some ⟨oc10, od10, .func (PySem.W.fnOf "head_of" "head_of" (defArgs s_head_of) (defBody s_head_of) (defScope s_head_of) .none kV10 dc10 pm10 an10 cd10 ct10), sl10⟩) (c10 : PySem.W.codeIn K cd10 "head_of" = true) (k10 : PySem.W.keepIn K (.ref f10) = true)
    {od11 an11 : Option Addr} {sl11 : Array (Option Value)} {oc11 kV11 dc11 pm11 cd11 ct11 : Value}
    (a11 : PySem.W.nsIn K mainGlobals "number_over" = some (some (.ref f11)))
    (l11 : K.lookup f11 = some ⟨oc11, od11, .func (PySem.W.fnOf "number_over" "number_over" (defArgs s_number_over) (defBody s_number_over) (defScope s_number_over) .none kV11 dc11 pm11 an11 cd11 ct11), sl11⟩) (c11 : PySem.W.codeIn K cd11 "number_over" = true) (k11 : PySem.W.keepIn K (.ref f11) = true)
    {od12 an12 : Option Addr} {sl12 : Array (Option Value)} {oc12 kV12 dc12 pm12 cd12 ct12 : Value}
    (a12 : PySem.W.nsIn K mainGlobals "tree_number" = some (some (.ref f12)))
    (l12 : K.lookup f12 = some ⟨oc12, od12, .func (PySem.W.fnOf "tree_number" "tree_number" (defArgs s_tree_number) (defBody s_tree_number) (defScope s_tree_number) .none kV12 dc12 pm12 an12 cd12 ct12), sl12⟩) (c12 : PySem.W.codeIn K cd12 "tree_number" = true) (k12 : PySem.W.keepIn K (.ref f12) = true)
    {od13 an13 : Option Addr} {sl13 : Array (Option Value)} {oc13 kV13 dc13 pm13 cd13 ct13 : Value}
    (a13 : PySem.W.nsIn K mainGlobals "_law_cell_at" = some (some (.ref f13)))
    (l13 : K.lookup f13 = some ⟨oc13, od13, .func (PySem.W.fnOf "_law_cell_at" "_law_cell_at" (defArgs s__law_cell_at) (defBody s__law_cell_at) (defScope s__law_cell_at) .none kV13 dc13 pm13 an13 cd13 ct13), sl13⟩) (c13 : PySem.W.codeIn K cd13 "_law_cell_at" = true) (k13 : PySem.W.keepIn K (.ref f13) = true)
    {od14 an14 : Option Addr} {sl14 : Array (Option Value)} {oc14 kV14 dc14 pm14 cd14 ct14 : Value}
    (a14 : PySem.W.nsIn K mainGlobals "_law_whole" = some (some (.ref f14)))
    (l14 : K.lookup f14 = some ⟨oc14, od14, .func (PySem.W.fnOf "_law_whole" "_law_whole" (defArgs s__law_whole) (defBody s__law_whole) (defScope s__law_whole) .none kV14 dc14 pm14 an14 cd14 ct14), sl14⟩) (c14 : PySem.W.codeIn K cd14 "_law_whole" = true) (k14 : PySem.W.keepIn K (.ref f14) = true)
    {od15 an15 : Option Addr} {sl15 : Array (Option Value)} {oc15 kV15 dc15 pm15 cd15 ct15 : Value}
    (a15 : PySem.W.nsIn K mainGlobals "_law_places" = some (some (.ref f15)))
    (l15 : K.lookup f15 = some ⟨oc15, od15, .func (PySem.W.fnOf "_law_places" "_law_places" (defArgs s__law_places) (defBody s__law_places) (defScope s__law_places) .none kV15 dc15 pm15 an15 cd15 ct15), sl15⟩) (c15 : PySem.W.codeIn K cd15 "_law_places" = true) (k15 : PySem.W.keepIn K (.ref f15) = true)
    {od16 an16 : Option Addr} {sl16 : Array (Option Value)} {oc16 kV16 dc16 pm16 cd16 ct16 : Value}
    (a16 : PySem.W.nsIn K mainGlobals "_law_moved" = some (some (.ref f16)))
    (l16 : K.lookup f16 = some ⟨oc16, od16, .func (PySem.W.fnOf "_law_moved" "_law_moved" (defArgs s__law_moved) (defBody s__law_moved) (defScope s__law_moved) .none kV16 dc16 pm16 an16 cd16 ct16), sl16⟩) (c16 : PySem.W.codeIn K cd16 "_law_moved" = true) (k16 : PySem.W.keepIn K (.ref f16) = true)
    {od17 an17 : Option Addr} {sl17 : Array (Option Value)} {oc17 kV17 dc17 pm17 cd17 ct17 : Value}
    (a17 : PySem.W.nsIn K mainGlobals "_law_trees" = some (some (.ref f17)))
    (l17 : K.lookup f17 = some ⟨oc17, od17, .func (PySem.W.fnOf "_law_trees" "_law_trees" (defArgs s__law_trees) (defBody s__law_trees) (defScope s__law_trees) .none kV17 dc17 pm17 an17 cd17 ct17), sl17⟩) (c17 : PySem.W.codeIn K cd17 "_law_trees" = true) (k17 : PySem.W.keepIn K (.ref f17) = true)
    {od18 an18 : Option Addr} {sl18 : Array (Option Value)} {oc18 kV18 dc18 pm18 cd18 ct18 : Value}
    (a18 : PySem.W.nsIn K mainGlobals "law" = some (some (.ref f18)))
    (l18 : K.lookup f18 = some ⟨oc18, od18, .func (PySem.W.fnOf "law" "law" (defArgs s_law) (defBody s_law) (defScope s_law) .none kV18 dc18 pm18 an18 cd18 ct18), sl18⟩) (c18 : PySem.W.codeIn K cd18 "law" = true) (k18 : PySem.W.keepIn K (.ref f18) = true)
    (z_bool : PySem.W.nsIn K mainGlobals "bool" = some none)
    (z_int : PySem.W.nsIn K mainGlobals "int" = some none)
    (z_isinstance : PySem.W.nsIn K mainGlobals "isinstance" = some none)
    (z_len : PySem.W.nsIn K mainGlobals "len" = some none)
    (z_list : PySem.W.nsIn K mainGlobals "list" = some none)
    (z_min : PySem.W.nsIn K mainGlobals "min" = some none)
    (z_range : PySem.W.nsIn K mainGlobals "range" = some none)
    (z_sum : PySem.W.nsIn K mainGlobals "sum" = some none)
    {tk_MOST : Tok} (g_MOST : PySem.W.nsIn K mainGlobals "MOST" = some (some (.int 40 tk_MOST)))
    : ∃ fd : FuncData, (∀ (s : Shared) (v : Value), BindsTo s fd ⟨[v], []⟩ [("script", v)]) ∧ ∀ base : Heap, K.In base → base.Ns mainGlobals mg → FnOk l.prog w K mg base CX0 47 fa fd ["script"] (sp_law K 0) := by
  have e := hfa.symm.trans (PySem.W.mg_of X G a18)
  cases e
  have T : Txt K mg C := { b_bool := PySem.W.mg_none_of X G z_bool, b_int := PySem.W.mg_none_of X G z_int, b_isinstance := PySem.W.mg_none_of X G z_isinstance, b_len := PySem.W.mg_none_of X G z_len, b_list := PySem.W.mg_none_of X G z_list, b_min := PySem.W.mg_none_of X G z_min, b_range := PySem.W.mg_none_of X G z_range, b_sum := PySem.W.mg_none_of X G z_sum, g_MOST := ⟨_, PySem.W.mg_of X G g_MOST, ⟨_, rfl⟩⟩ }
  have F1 := fun_mk (st := s_over) l1 c1 k1
  have b1 := F1.binds (ps := ["numbers", "first", "behind", "top", "found"]) fun _ _ _ _ _ _ us hl => match us, hl with | [_, _, _, _, _], _ => rfl
  have F2 := fun_mk (st := s_tree_over) l2 c2 k2
  have b2 := F2.binds (ps := ["numbers"]) fun _ _ _ _ _ _ us hl => match us, hl with | [_], _ => rfl
  have F3 := fun_mk (st := s_depths) l3 c3 k3
  have b3 := F3.binds (ps := ["some"]) fun _ _ _ _ _ _ us hl => match us, hl with | [_], _ => rfl
  have F4 := fun_mk (st := s_is_tree) l4 c4 k4
  have b4 := F4.binds (ps := ["some"]) fun _ _ _ _ _ _ us hl => match us, hl with | [_], _ => rfl
  have F5 := fun_mk (st := s_shapes) l5 c5 k5
  have b5 := F5.binds (ps := ["most"]) fun _ _ _ _ _ _ us hl => match us, hl with | [_], _ => rfl
  have F6 := fun_mk (st := s_many_trees) l6 c6 k6
  have b6 := F6.binds (ps := ["size"]) fun _ _ _ _ _ _ us hl => match us, hl with | [_], _ => rfl
  have F7 := fun_mk (st := s_build) l7 c7 k7
  have b7 := F7.binds (ps := ["counts", "first", "size", "number", "top", "found"]) fun _ _ _ _ _ _ us hl => match us, hl with | [_, _, _, _, _, _], _ => rfl
  have F8 := fun_mk (st := s_tree_at) l8 c8 k8
  have b8 := F8.binds (ps := ["size", "number"]) fun _ _ _ _ _ _ us hl => match us, hl with | [_, _], _ => rfl
  have F9 := fun_mk (st := s_ask_tree) l9 c9 k9
  have b9 := F9.binds (ps := ["tree"]) fun _ _ _ _ _ _ us hl => match us, hl with | [_], _ => rfl
  have F10 := fun_mk (st := s_head_of) l10 c10 k10
  have b10 := F10.binds (ps := ["tree", "first", "behind"]) fun _ _ _ _ _ _ us hl => match us, hl with | [_, _, _], _ => rfl
  have F11 := fun_mk (st := s_number_over) l11 c11 k11
  have b11 := F11.binds (ps := ["counts", "tree", "first", "behind"]) fun _ _ _ _ _ _ us hl => match us, hl with | [_, _, _, _], _ => rfl
  have F12 := fun_mk (st := s_tree_number) l12 c12 k12
  have b12 := F12.binds (ps := ["tree"]) fun _ _ _ _ _ _ us hl => match us, hl with | [_], _ => rfl
  have F13 := fun_mk (st := s__law_cell_at) l13 c13 k13
  have b13 := F13.binds (ps := ["script", "k"]) fun _ _ _ _ _ _ us hl => match us, hl with | [_, _], _ => rfl
  have F14 := fun_mk (st := s__law_whole) l14 c14 k14
  have b14 := F14.binds (ps := ["found"]) fun _ _ _ _ _ _ us hl => match us, hl with | [_], _ => rfl
  have F15 := fun_mk (st := s__law_places) l15 c15 k15
  have b15 := F15.binds (ps := ["found", "due"]) fun _ _ _ _ _ _ us hl => match us, hl with | [_, _], _ => rfl
  have F16 := fun_mk (st := s__law_moved) l16 c16 k16
  have b16 := F16.binds (ps := ["tree", "by", "top"]) fun _ _ _ _ _ _ us hl => match us, hl with | [_, _, _], _ => rfl
  have F17 := fun_mk (st := s__law_trees) l17 c17 k17
  have b17 := F17.binds (ps := ["most"]) fun _ _ _ _ _ _ us hl => match us, hl with | [_], _ => rfl
  have F18 := fun_mk (st := s_law) l18 c18 k18
  have b18 := F18.binds (ps := ["script"]) fun _ _ _ _ _ _ us hl => match us, hl with | [_], _ => rfl
  refine ⟨PySem.W.fnOf "law" "law" (defArgs s_law) (defBody s_law) (defScope s_law) .none kV18 dc18 pm18 an18 cd18 ct18, fun s v => .of_eq rfl, fun base _ _ => ?_⟩
  have c_over : ∀ n : Nat, C8.Cal l.prog w K mg base (0 + n) "over" (sp_over K C n) [] := by
    intro n
    induction n with
    | zero => exact ⟨_, _, ["numbers", "first", "behind", "top", "found"], [], fnOk_no no_over, PySem.W.mg_of X G a1, k1, b1, .nil⟩
    | succ n ih => exact ⟨_, _, ["numbers", "first", "behind", "top", "found"], [], ok_over F1 T ih, PySem.W.mg_of X G a1, k1, b1, .nil⟩
  replace c_over := c_over 42
  have c_tree_over : C8.Cal l.prog w K mg base 43 "tree_over" (sp_tree_over K C) [] := ⟨f2, _, ["numbers"], [], ok_tree_over F2 T c_over, PySem.W.mg_of X G a2, k2, b2, .nil⟩
  have c_depths : C8.Cal l.prog w K mg base 1 "depths" (sp_depths K C) [] := ⟨f3, _, ["some"], [], ok_depths F3 T , PySem.W.mg_of X G a3, k3, b3, .nil⟩
  have c_is_tree : C8.Cal l.prog w K mg base 44 "is_tree" (sp_is_tree K C) [] := ⟨f4, _, ["some"], [], ok_is_tree F4 T c_tree_over c_depths, PySem.W.mg_of X G a4, k4, b4, .nil⟩
  have c_shapes : C8.Cal l.prog w K mg base 1 "shapes" (sp_shapes K C) [] := ⟨f5, _, ["most"], [], ok_shapes F5 T , PySem.W.mg_of X G a5, k5, b5, .nil⟩
  have c_many_trees : C8.Cal l.prog w K mg base 2 "many_trees" (sp_many_trees K C) [] := ⟨f6, _, ["size"], [], ok_many_trees F6 T c_shapes, PySem.W.mg_of X G a6, k6, b6, .nil⟩
  have c_build : ∀ n : Nat, C8.Cal l.prog w K mg base (0 + n) "build" (sp_build K C n) [] := by
    intro n
    induction n with
    | zero => exact ⟨_, _, ["counts", "first", "size", "number", "top", "found"], [], fnOk_no no_build, PySem.W.mg_of X G a7, k7, b7, .nil⟩
    | succ n ih => exact ⟨_, _, ["counts", "first", "size", "number", "top", "found"], [], ok_build F7 T ih, PySem.W.mg_of X G a7, k7, b7, .nil⟩
  replace c_build := c_build 42
  have c_tree_at : C8.Cal l.prog w K mg base 43 "tree_at" (sp_tree_at K C) [] := ⟨f8, _, ["size", "number"], [], ok_tree_at F8 T c_build c_shapes c_many_trees, PySem.W.mg_of X G a8, k8, b8, .nil⟩
  have c_ask_tree : C8.Cal l.prog w K mg base 45 "ask_tree" (sp_ask_tree K C) [] := ⟨f9, _, ["tree"], [], ok_ask_tree F9 T c_is_tree, PySem.W.mg_of X G a9, k9, b9, .nil⟩
  have c_head_of : C8.Cal l.prog w K mg base 1 "head_of" (sp_head_of K C) [] := ⟨f10, _, ["tree", "first", "behind"], [], ok_head_of F10 T , PySem.W.mg_of X G a10, k10, b10, .nil⟩
  have c_number_over : ∀ n : Nat, C8.Cal l.prog w K mg base (1 + n) "number_over" (sp_number_over K C n) [] := by
    intro n
    induction n with
    | zero => exact ⟨_, _, ["counts", "tree", "first", "behind"], [], fnOk_no no_number_over, PySem.W.mg_of X G a11, k11, b11, .nil⟩
    | succ n ih => exact ⟨_, _, ["counts", "tree", "first", "behind"], [], ok_number_over F11 T ih c_head_of, PySem.W.mg_of X G a11, k11, b11, .nil⟩
  replace c_number_over := c_number_over 42
  have c_tree_number : C8.Cal l.prog w K mg base 46 "tree_number" (sp_tree_number K C) [] := ⟨f12, _, ["tree"], [], ok_tree_number F12 T c_number_over c_shapes c_ask_tree, PySem.W.mg_of X G a12, k12, b12, .nil⟩
  have c__law_cell_at : C8.Cal l.prog w K mg base 1 "_law_cell_at" (sp__law_cell_at K C) [] := ⟨f13, _, ["script", "k"], [], ok__law_cell_at F13 T , PySem.W.mg_of X G a13, k13, b13, .nil⟩
  have c__law_whole : C8.Cal l.prog w K mg base 1 "_law_whole" (sp__law_whole K C) [] := ⟨f14, _, ["found"], [], ok__law_whole F14 T , PySem.W.mg_of X G a14, k14, b14, .nil⟩
  have c__law_places : C8.Cal l.prog w K mg base 2 "_law_places" (sp__law_places K C) [] := ⟨f15, _, ["found", "due"], [], ok__law_places F15 T c__law_whole, PySem.W.mg_of X G a15, k15, b15, .nil⟩
  have c__law_moved : C8.Cal l.prog w K mg base 1 "_law_moved" (sp__law_moved K C) [] := ⟨f16, _, ["tree", "by", "top"], [], ok__law_moved F16 T , PySem.W.mg_of X G a16, k16, b16, .nil⟩
  have c__law_trees : C8.Cal l.prog w K mg base 2 "_law_trees" (sp__law_trees K C) [] := ⟨f17, _, ["most"], [], ok__law_trees F17 T c__law_moved, PySem.W.mg_of X G a17, k17, b17, .nil⟩
  have z := ok_law (P := l.prog) (w := w) (base := base) F18 T c_tree_at c__law_whole c_tree_number c__law_places c_many_trees c__law_trees c__law_cell_at
  exact z
end VT
open PySem PySem.W PyProof.Rows
set_option maxRecDepth 100000 in
set_option maxHeartbeats 0 in
theorem PySem.Challenge.cw_valleytree_k08_all_trees_in_their_order_holds : PySem.Challenge.rw_valleytree_k08_all_trees_in_their_order.Holds := by
  w_on; o_law; k_head; (case hw => w_witness2)
  k_fill
  refine L2.walk_of (l := PySem.Challenge.rw_valleytree_k08_all_trees_in_their_order) (n := 63) (k := 47) (x := "script") (CX := fun _ => L2.CX0) (sp := fun w => VT.sp_law _ 0) rfl (by decide) rfl ⟨rfl, by decide, by decide⟩ (fun w h Y => PySem.W.kIn_of Y) ?F (fun _ _ a ns hl _ hS => VT.law_in hS hl) (fun _ _ _ _ _ h => h)
  case F =>
    intro w mg fa h KX G hmg
    refine' VT.all_mk (C := 0) KX G hmg ?a1 ?l1 ?c1 ?k1 ?a2 ?l2 ?c2 ?k2 ?a3 ?l3 ?c3 ?k3 ?a4 ?l4 ?c4 ?k4 ?a5 ?l5 ?c5 ?k5 ?a6 ?l6 ?c6 ?k6 ?a7 ?l7 ?c7 ?k7 ?a8 ?l8 ?c8 ?k8 ?a9 ?l9 ?c9 ?k9 ?a10 ?l10 ?c10 ?k10 ?a11 ?l11 ?c11 ?k11 ?a12 ?l12 ?c12 ?k12 ?a13 ?l13 ?c13 ?k13 ?a14 ?l14 ?c14 ?k14 ?a15 ?l15 ?c15 ?k15 ?a16 ?l16 ?c16 ?k16 ?a17 ?l17 ?c17 ?k17 ?a18 ?l18 ?c18 ?k18 ?z_bool ?z_int ?z_isinstance ?z_len ?z_list ?z_min ?z_range ?z_sum ?g_MOST
    (case a1 => k_is)
    (case l1 => k_is)
    (case c1 => k_is)
    (case k1 => k_is)
    (case a2 => k_is)
    (case l2 => k_is)
    (case c2 => k_is)
    (case k2 => k_is)
    (case a3 => k_is)
    (case l3 => k_is)
    (case c3 => k_is)
    (case k3 => k_is)
    (case a4 => k_is)
    (case l4 => k_is)
    (case c4 => k_is)
    (case k4 => k_is)
    (case a5 => k_is)
    (case l5 => k_is)
    (case c5 => k_is)
    (case k5 => k_is)
    (case a6 => k_is)
    (case l6 => k_is)
    (case c6 => k_is)
    (case k6 => k_is)
    (case a7 => k_is)
    (case l7 => k_is)
    (case c7 => k_is)
    (case k7 => k_is)
    (case a8 => k_is)
    (case l8 => k_is)
    (case c8 => k_is)
    (case k8 => k_is)
    (case a9 => k_is)
    (case l9 => k_is)
    (case c9 => k_is)
    (case k9 => k_is)
    (case a10 => k_is)
    (case l10 => k_is)
    (case c10 => k_is)
    (case k10 => k_is)
    (case a11 => k_is)
    (case l11 => k_is)
    (case c11 => k_is)
    (case k11 => k_is)
    (case a12 => k_is)
    (case l12 => k_is)
    (case c12 => k_is)
    (case k12 => k_is)
    (case a13 => k_is)
    (case l13 => k_is)
    (case c13 => k_is)
    (case k13 => k_is)
    (case a14 => k_is)
    (case l14 => k_is)
    (case c14 => k_is)
    (case k14 => k_is)
    (case a15 => k_is)
    (case l15 => k_is)
    (case c15 => k_is)
    (case k15 => k_is)
    (case a16 => k_is)
    (case l16 => k_is)
    (case c16 => k_is)
    (case k16 => k_is)
    (case a17 => k_is)
    (case l17 => k_is)
    (case c17 => k_is)
    (case k17 => k_is)
    (case a18 => k_is)
    (case l18 => k_is)
    (case c18 => k_is)
    (case k18 => k_is)
    (case z_bool => k_is)
    (case z_int => k_is)
    (case z_isinstance => k_is)
    (case z_len => k_is)
    (case z_list => k_is)
    (case z_min => k_is)
    (case z_range => k_is)
    (case z_sum => k_is)
    (case g_MOST => k_is)
#print axioms PySem.Challenge.cw_valleytree_k08_all_trees_in_their_order_holds
