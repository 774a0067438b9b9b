import PyProof.Rows.All
import Wide.All
import OpenK.AllK
import Wide.FinOn
import HandS.ForMost
import HandS.Codes
import HandS.More
import HandS.Conv
import HandS.IsInst
import HandS.Wide
import HandS.SortInts
import HandS.RevRange
import HandS.Style
import PyProof.SeqIndex
import KE.DataMinMax
import KE.SortData
import HandS.Rev
import HandS.Exc
import HandS.TryOnly
import HandS.ExcOwn
import HandS.WordsExc
import HandS.ExcIs
import HandS.HotCalls
import PySem.Challenge.RW_valleytree_k15_each_refusal_its_own
set_option Elab.async false
set_option linter.all false
set_option maxRecDepth 100000
set_option maxHeartbeats 4000000
/-! ### a layer of small steps over the hand layer -/
namespace VT
open PySem PySem.Spec PyProof.Rows L2
theorem same_new {H : Hp} {p : Addr} (h : H p = none) (o : HO) : Same H (upd H p o) := fun b u q => by
  rw [upd_ne (ne_of_none q h)]
  exact q
theorem same_mut {H H' : Hp} {p : Addr} {o : HO} (e : Same H H') (h : H p = none) : Same H (upd H' p o) := fun b u q => by
  rw [upd_ne (ne_of_none q h)]
  exact e b u q
theorem same_new2 {H H' : Hp} {p : Addr} {o : HO} (e : Same H H') (h : H' p = none) : Same H (upd H' p o) := e.trans (same_new h o)
/-- all but what stands at l is as it was -/
def But (l : Addr) (H H' : Hp) : Prop := ∀ b o, H b = some o → b ≠ l → H' b = some o
theorem But.of {l : Addr} {H H' : Hp} (e : Same H H') : But l H H' := fun b o q _ => e b o q
theorem But.up {l : Addr} {H H' : Hp} {o : HO} (e : But l H H') : But l H (upd H' l o) := fun b u q n => by
  rw [upd_ne n]
  exact e b u q n
theorem But.trans {l : Addr} {H H1 H2 : Hp} (a : But l H H1) (b : But l H1 H2) : But l H H2 := fun c o h n => b c o (a c o h n) n
theorem But.same {l : Addr} {H H' : Hp} (e : But l H H') (h : H l = none) : Same H H' := fun b o q => e b o q (ne_of_none q h)
theorem same_but {l : Addr} {H H1 H2 : Hp} (a : Same H H1) (b : But l H1 H2) (c : H l = none) : Same H H2 := fun p o q => b p o (a p o q) (ne_of_none q c)
theorem But.get {l b : Addr} {o : HO} {H H' : Hp} (e : But l H H') (n : b ≠ l) (h : H b = some o) : H' b = some o := e b o h n
theorem Same.get {b : Addr} {o : HO} {H H' : Hp} (e : Same H H') (h : H b = some o) : H' b = some o := e b o h
theorem up_get {b p : Addr} {o u : HO} {H : Hp} (n : b ≠ p) (h : H b = some o) : upd H p u b = some o := by
  rw [upd_ne n]
  exact h
theorem ne_new {H : Hp} {a b : Addr} {o : HO} (h' : H b = none) (h : H a = some o) : a ≠ b := ne_of_none h h'
theorem ne_new' {H : Hp} {a b : Addr} {o : HO} (h' : H b = none) (h : H a = some o) : b ≠ a := (ne_of_none h h').symm
theorem up_free {H : Hp} {a b : Addr} {o : HO} (n : a ≠ b) (h : H a = none) : upd H b o a = none := by
  rw [upd_ne n]
  exact h
theorem SqL.lst {K : PySem.W.Frag} {H : Hp} {a : Addr} {xs : List V} (h : H a = some (.lst xs)) : SqL K H a xs := .inl (.inl h)
theorem SqT.tup {K : PySem.W.Frag} {H : Hp} {a : Addr} {xs : List V} (h : H a = some (.tup xs)) : SqT K H a xs := .inl (.inl h)
theorem same_seqT {K : PySem.W.Frag} {H H' : Hp} {a : Addr} {xs : List V} (e : Same H H') (h : SqT K H a xs) : SqT K H' a xs := by
  rcases h with (h | ⟨o, h⟩) | h
  · exact .inl (.inl (e _ _ h))
  · exact .inl (.inr ⟨o, e _ _ h⟩)
  · exact .inr h
/-- a readable list is not at a place that is new -/
theorem But.seq {K : PySem.W.Frag} {H H' : Hp} {a l : Addr} {xs : List V} (e : But l H H') (n : a ≠ l) (h : SqL K H a xs) : SqL K H' a xs := by
  rcases h with (h | ⟨o, h⟩) | h
  · exact .inl (.inl (e _ _ h n))
  · exact .inl (.inr ⟨o, e _ _ h n⟩)
  · exact .inr h
theorem sz {n : Nat} (h : n ≤ 1000000) : n ≤ sizeLine := Nat.le_trans h (by decide)
theorem szl {n : Nat} (h : n ≤ 1000000) : n < sizeLine := Nat.lt_of_le_of_lt h (by decide)

/-! ### names for the rules' readings -/
def rLen (K : PySem.W.Frag) : List V → Hp → VK → Prop := fun xs H Q => ∃ p ys, xs = [.ref p] ∧ (SqL K H p ys ∨ SqT K H p ys) ∧ Q (.int ys.length) H
def rListOf (K : PySem.W.Frag) : List V → Hp → VK → Prop := fun xs H Q => ∃ p ys, xs = [.ref p] ∧ (SqL K H p ys ∨ SqT K H p ys) ∧ ∀ l, H l = none → Q (.ref l) (upd H l (.lst ys))
def rMin2 : List V → Hp → VK → Prop := fun xs H Q => ∃ i j, xs = [.int i, .int j] ∧ Q (.int (if j < i then j else i)) H
def rMax2 : List V → Hp → VK → Prop := fun xs H Q => ∃ i j, xs = [.int i, .int j] ∧ Q (.int (if j > i then j else i)) H
def rAbs : List V → Hp → VK → Prop := fun xs H Q => ∃ i, xs = [.int i] ∧ Q (.int (if i < 0 then -i else i)) H
def rIsN : R2 := fun x y H Q => y = .non ∧ Q (.bl (decide (x = .non))) H
def rNotN : R2 := fun x y H Q => y = .non ∧ Q (.bl (!decide (x = .non))) H
def rIns : V → List V → Hp → VK → Prop := fun x vs H Q => ∃ (l : Addr) (xs : List V) (i : Int) (y : V), x = .ref l ∧ vs = [.int i, y] ∧ H l = some (.lst xs) ∧ xs.length < sizeLine ∧ 0 ≤ i ∧ i < 2 ^ 63 ∧ Q .non (upd H l (.lst (xs.take i.toNat ++ [y] ++ xs.drop i.toNat)))
section
variable {X : Cx}
theorem c_len : CallR X (.builtin "len") (rLen X.K) := call_len_seq
theorem c_listOf : CallR X (.type "list") (rListOf X.K) := call_list_of
theorem c_min2 (hc : X.calm = true) : CallR X (.builtin "min") rMin2 := call_min2 hc
theorem c_max2 (hc : X.calm = true) : CallR X (.builtin "max") rMax2 := call_max2 hc
theorem c_abs : CallR X (.builtin "abs") rAbs := call_abs
theorem o_isN : OpR X (compareOp .Is) rIsN := op_isN
theorem o_notN : OpR X (compareOp .IsNot) rNotN := op_notN
/-- the rules at a written part that is told (within a comprehension) -/
theorem ixL {K : PySem.W.Frag} (h : X.K = K) : IxR X (rIxL K) := by
  subst h
  exact ix_list
theorem ixT {K : PySem.W.Frag} (h : X.K = K) : IxR X (rIxT K) := by
  subst h
  exact ix_tup
theorem inS {K : PySem.W.Frag} (h : X.K = K) : OpR X (compareOp .In) (rIn K false) := by
  subst h
  exact op_in_seq
theorem eqD {K : PySem.W.Frag} (h : X.K = K) (hu : X.A.units + 64 < cLine) : OpR X (compareOp .Eq) (rEqD K) := by
  subst h
  exact op_eqD hu
theorem piL {K : PySem.W.Frag} {tg l : Expr} {tl : TE} (h : X.K = K) (hl : PE X l tl) : PI X tg l (iList K tl) := by
  subst h
  exact pi_list hl
/-- xs.index(y, i), xs a list of numbers, y there at i or behind: the first such place -/
def rIndex3 (K : PySem.W.Frag) : V → List V → Hp → VK → Prop := fun x xs H Q => ∃ (a : Addr) (ns : List Int) (y i : Int) (j : Nat), x = .ref a ∧ xs = [.int y, .int i] ∧ SqL K H a (ns.map V.int) ∧ 0 ≤ i ∧ i.toNat ≤ j ∧ ns[j]? = some y ∧ (∀ m : Nat, i.toNat ≤ m → m < j → ns[m]? ≠ some y) ∧ Q (.int (j : Nat)) H
theorem mt_index3 : MtR X "list.index" (rIndex3 X.K) := by
  intro pins s σ H x xs v us Q I rx rxs h
  obtain ⟨a, ns, y, i, j, rfl, rfl, hs, i0, hij, hj, hno, q⟩ := h
  cases rx
  obtain ⟨u1, u2, rfl, r1, r2⟩ := vals2 rxs
  obtain ⟨t1, rfl⟩ := r1
  obtain ⟨t2, rfl⟩ := r2
  obtain ⟨its, rv, ⟨⟨cls, dd, data, sl⟩, n, ho, hc, hdn, hd⟩, hlen⟩ := I.list hs
  simp only at hc hd
  subst hc hd
  have hvl := rv.length
  rw [List.length_map] at hvl
  have hjl : j < ns.length := (List.getElem?_eq_some_iff.mp hj).1
  have hsl := sizeLine_eq
  have hlen' : (ns.map V.int).length ≤ sizeLine := by
    first
      | exact hlen
      | (rw [List.length_map]; rw [hvl]; exact hlen)
  rw [List.length_map, hsl] at hlen'
  have hsf : SeqAt.searchFrom i its.toArray.size = i.toNat := SeqAt.searchFrom_nonneg i0 _
  refine call_meets PySem.F.slot_list_index ⟨_, ho, rfl⟩ PySem.F.entry_list_index (PySem.F.args_list_index_3 _ _ _)
    (SeqAt.list_index3_found a its.toArray n dd sl (.int y t1) (fun m => decide (ns[m]? = some y)) i t2 j (by rw [List.size_toArray]; omega) (by rw [hsf]; exact hij) (by omega) (decide_eq_true hj) ?_) ⟨ho, fun m hm => ?_, ?_⟩
  · intro m hm h1 h2
    rw [hsf] at h1
    exact decide_eq_false (hno m h1 h2)
  · have hml : m < its.length := by simpa using hm
    have hmn : m < ns.length := by omega
    have hm' : (ns.map V.int)[m]? = some (V.int ns[m]) := by rw [List.getElem?_map, List.getElem?_eq_getElem hmn] <;> rfl
    obtain ⟨u2, hu2, ru2⟩ := rv.get hm'
    obtain ⟨hm1, hme⟩ := List.getElem?_eq_some_iff.mp hu2
    obtain ⟨tm, rfl⟩ := ru2
    have e1 : its.toArray[m] = .int ns[m] tm := by simpa using hme
    have hq := mem_eqAt (A := X.A.in1) (s := s) (x := V.int y) (v := .int y t1) ⟨t1, rfl⟩ rfl rv (by rw [List.all_map]; exact List.all_eq_true.mpr fun _ _ => rfl) its.toArray[m] (by simp)
    have e2 : eqU (V.int y) its.toArray[m] = decide (ns[m]? = some y) := by
      rw [e1, List.getElem?_eq_getElem hmn]
      show (ns[m] == y) = _
      by_cases h : ns[m] = y
      · rw [h, beq_self_eq_true, decide_eq_true rfl]
      · rw [beq_eq_false_iff_ne.mpr h, decide_eq_false (fun z => h (Option.some.inj z))]
    rw [e2] at hq
    exact hq
  · exact ⟨.int (j : Nat), H, I.tok _, ⟨_, rfl⟩, q⟩
/-- xs.count(y), flat items -/
def rCountV (K : PySem.W.Frag) : V → List V → Hp → VK → Prop := fun x xs H Q => ∃ (a : Addr) (ys : List V) (y : V), x = .ref a ∧ xs = [y] ∧ SqL K H a ys ∧ flatV y = true ∧ ys.all flatV = true ∧ Q (.int (ys.countP (fun z => eqV z y) : Nat)) H
theorem countP_rel {y : V} : ∀ {ys : List V} {its : List Value}, Vals ys its → ys.all flatV = true → its.countP (eqU y) = ys.countP (fun z => eqV z y)
  | _, _, .nil, _ => rfl
  | x :: ys, u :: us, .cons r t, f => by
    rw [List.all_cons, Bool.and_eq_true] at f
    rw [List.countP_cons, List.countP_cons, countP_rel t f.2, eqU_of r f.1]
theorem mt_countV : MtR X "list.count" (rCountV X.K) := by
  intro pins s σ H x xs v us Q I rx rxs h
  obtain ⟨a, ys, y, rfl, rfl, hs, fy, fys, q⟩ := h
  cases rx
  obtain ⟨u, rfl, ru⟩ := rxs.one
  obtain ⟨its, rv, ⟨⟨cls, dd, data, sl⟩, n, ho, hc, hdn, hd⟩, hlen⟩ := I.list hs
  simp only at hc hd
  subst hc hd
  refine call_meets PySem.F.slot_list_count ⟨_, ho, rfl⟩ PySem.F.entry_list_count (PySem.F.args_list_count_2 _ _)
    (SeqAt.list_countAt a its.toArray n dd sl u (eqU y)) ⟨ho, fun z hz => mem_eqAt ru fy rv fys z (by simpa using hz), ?_⟩
  have ec : its.toArray.toList.countP (eqU y) = ys.countP (fun z => eqV z y) := countP_rel rv fys
  refine ⟨.int (ys.countP (fun z => eqV z y) : Nat), H, I.tok _, ⟨s.toks, ?_⟩, q⟩
  show Value.int ((its.toArray.toList.countP (eqU y) : Nat) : Int) s.toks = Value.int ((ys.countP (fun z => eqV z y) : Nat) : Int) s.toks
  rw [ec]
/-- a op1 b op2 c op3 d -/
def tChain3 (r r' r2 : R2) (ta tb tc td : TE) : TE := fun σ H Q => ta σ H fun x H1 => tb σ H1 fun y H2 => r x y H2 fun z H3 => ∃ k, z = .bl k ∧
  (if k = true then tc σ H3 fun w' H4 => r' y w' H4 fun z' H5 => ∃ k', z' = .bl k' ∧ (if k' = true then td σ H5 fun w2 H6 => r2 w' w2 H6 Q else Q (.bl false) H5) else Q (.bl false) H3)
theorem pt_chain3 {op op' op2 : CmpOp} {r r' r2 : R2} {a b c d : Expr} {ta tb tc td : TE} {pos : Pos} (ho : OpR X (compareOp op) r) (ho' : OpR X (compareOp op') r') (ho2 : OpR X (compareOp op2) r2) (ha : PE X a ta) (hb : PE X b tb) (hc : PE X c tc) (hd : PE X d td)
    (hm : lastMarks [op, op', op2] [b, c, d] = false := by with_unfolding_all rfl) : PT X (.Compare a [op, op', op2] [b, c, d] pos) (tTest (tChain3 r r' r2 ta tb tc td)) := by
  refine ⟨fun pins s σ H Q I h => ?_⟩
  refine isTrue_chain (thn (ha.run pins s σ H _ I h) fun v s1 ⟨x, H1, I1, r1, q1⟩ => test_link (thn (hb.run pins s1 σ H1 _ I1 q1) fun u s2 ⟨y, H2, I2, rr2, q2⟩ =>
    thn (ho pins s2 σ H2 x y v u _ I2 r1 rr2 q2) fun e s3 ⟨z, H3, I3, r3, k, ez, q3⟩ => ?_)) hm
  subst ez
  cases r3
  refine wpAny_truthy_bool ?_
  cases k with
  | false =>
    obtain ⟨k', e', q'⟩ := q3
    cases e'
    exact ite_ff ⟨H3, I3, q'⟩
  | true =>
    refine ite_tt (test_link (thn (hc.run pins s3 σ H3 _ I3 q3) fun w' s4 ⟨z', H4, I4, r4, q4⟩ => thn (ho' pins s4 σ H4 y z' u w' _ I4 rr2 r4 q4) fun d' s5 ⟨z2, H5, I5, r5, k2, e2, q5⟩ => ?_))
    subst e2
    cases r5
    refine wpAny_truthy_bool ?_
    cases k2 with
    | false =>
      obtain ⟨k', e', q'⟩ := q5
      cases e'
      exact ite_ff ⟨H5, I5, q'⟩
    | true =>
      refine ite_tt (test_last (thn (hd.run pins s5 σ H5 _ I5 q5) fun w2 s6 ⟨z3, H6, I6, r6, q6⟩ => thn (ho2 pins s6 σ H6 z' z3 w' w2 _ I6 r4 r6 q6) fun d2 s7 ⟨z4, H7, I7, r7, k3, e3, q7⟩ => ?_))
      subst e3
      cases r7
      exact wpAny_truthy_bool ⟨H7, I7, q7⟩
theorem m_insert : MtR X "list.insert" rIns := mt_insert
end
section
variable {σ : L2.St} {H : Hp} {Q : VK} {D : Ends} {ta tb tc te : TE} {t u : TS} {tt tu : TT} {K : PySem.W.Frag}
variable {nx bk ct : L2.St → Hp → Prop} {rt : VK}
theorem r_seq (h : t ⟨u ⟨nx, rt, bk, ct⟩, rt, bk, ct⟩ σ H) : tSeq t u ⟨nx, rt, bk, ct⟩ σ H := h
theorem r_cut (M : L2.St → Hp → Prop) (h : t ⟨M, rt, bk, ct⟩ σ H) (k : ∀ σ' H', M σ' H' → u ⟨nx, rt, bk, ct⟩ σ' H') : C8.tCut t u ⟨nx, rt, bk, ct⟩ σ H := ⟨M, h, k⟩
theorem r_next (h : nx σ H) : tNext ⟨nx, rt, bk, ct⟩ σ H := h
theorem r_asg {g : TG} (h : te σ H fun x H1 => g x σ H1 nx) : tAsg te g ⟨nx, rt, bk, ct⟩ σ H := h
theorem r_name {i : Nat} {v : V} {N : L2.St → Hp → Prop} (h : N (σ.set i (some v)) H) : gName i v σ H N := h
theorem r_sub {to ti : TE} {g : V → V → V → Hp → (Hp → Prop) → Prop} {v : V} {N : L2.St → Hp → Prop} (h : to σ H fun o H1 => ti σ H1 fun i H2 => g o i v H2 fun H3 => N σ H3) : gSub to ti g v σ H N := h
theorem r_drop (h : te σ H fun _ H1 => nx σ H1) : tDrop te ⟨nx, rt, bk, ct⟩ σ H := h
theorem r_ret (h : te σ H rt) : tRet te ⟨nx, rt, bk, ct⟩ σ H := h
theorem r_retN (h : rt .non H) : tRetN ⟨nx, rt, bk, ct⟩ σ H := h
theorem r_if {tc : TT} (h : tc σ H fun b H1 => if b = true then t ⟨nx, rt, bk, ct⟩ σ H1 else u ⟨nx, rt, bk, ct⟩ σ H1) : tIfS tc t u ⟨nx, rt, bk, ct⟩ σ H := h
theorem r_var {i : Nat} {v : V} (h : σ[i]? = some (some v)) (q : Q v H) : tVar i σ H Q := ⟨v, h, q⟩
theorem r_c {v : V} (q : Q v H) : tC v σ H Q := q
theorem r_op {r : R2} (h : ta σ H fun x H1 => tb σ H1 fun y H2 => r x y H2 Q) : tOp r ta tb σ H Q := h
theorem r_un {r : V → Hp → VK → Prop} (h : ta σ H fun x H1 => r x H1 Q) : tUn r ta σ H Q := h
theorem r_chain {r r' : R2} (h : ta σ H fun x H1 => tb σ H1 fun y H2 => r x y H2 fun z H3 => ∃ k, z = .bl k ∧ (if k = true then tc σ H3 fun w' H4 => r' y w' H4 Q else Q (.bl false) H3)) : tChain r r' ta tb tc σ H Q := h
theorem r_chain3 {r r' r2 : R2} {td : TE} (h : ta σ H fun x H1 => tb σ H1 fun y H2 => r x y H2 fun z H3 => ∃ k, z = .bl k ∧
  (if k = true then tc σ H3 fun w' H4 => r' y w' H4 fun z' H5 => ∃ k', z' = .bl k' ∧ (if k' = true then td σ H5 fun w2 H6 => r2 w' w2 H6 Q else Q (.bl false) H5) else Q (.bl false) H3)) : tChain3 r r' r2 ta tb tc td σ H Q := h
theorem r_sFld {f : Str} (h : te σ H fun y H1 => ta σ H1 fun x H2 => ∃ a C dx fs, x = .ref a ∧ H2 a = some (.ins C dx fs) ∧ Cls K C ∧ NoAttr K C f ∧ fs.length < 1000 ∧ nx σ (upd H2 a (.ins C dx (putF f y fs)))) : sFld K ta te f ⟨nx, rt, bk, ct⟩ σ H := h
theorem r_test {N : Bool → Hp → Prop} (h : te σ H fun x H' => ∃ k, x = .bl k ∧ N k H') : tTest te σ H N := h
theorem r_B {N : Bool → Hp → Prop} (h : te σ H fun x H' => ∃ k, x = .bl k ∧ N k H') : tB te σ H N := h
theorem r_bl {b : Bool} {N : Bool → Prop} (h : N b) : ∃ k, V.bl b = V.bl k ∧ N k := ⟨b, rfl, h⟩
theorem r_not {N : Bool → Hp → Prop} (h : tt σ H fun c H1 => N (!c) H1) : tNot tt σ H N := h
theorem r_and {N : Bool → Hp → Prop} (h : tt σ H fun c H1 => if c = true then tu σ H1 N else N false H1) : tAnd tt tu σ H N := h
theorem r_or {N : Bool → Hp → Prop} (h : tt σ H fun c H1 => if c = true then N true H1 else tu σ H1 N) : tOr tt tu σ H N := h
theorem r_andV (h : ta σ H fun x H1 => ∃ c, x = .bl c ∧ if c = true then tb σ H1 Q else Q (.bl false) H1) : tAndV ta tb σ H Q := h
theorem r_orV (h : ta σ H fun x H1 => ∃ c, x = .bl c ∧ if c = true then Q (.bl true) H1 else tb σ H1 Q) : tOrV ta tb σ H Q := h
theorem r_notV (h : ta σ H fun x H1 => ∃ c, x = .bl c ∧ Q (.bl (!c)) H1) : tNotV ta σ H Q := h
theorem r_ifE {c : TT} (h : c σ H fun b H1 => if b = true then ta σ H1 Q else tb σ H1 Q) : tIf c ta tb σ H Q := h
theorem r_cons {tr : TA} {N : List V → Hp → Prop} (h : ta σ H fun x H1 => tr σ H1 fun xs H2 => N (x :: xs) H2) : tCons ta tr σ H N := h
theorem r_nil {N : List V → Hp → Prop} (h : N [] H) : tNil σ H N := h
theorem r_lst {tr : TA} (h : tr σ H fun xs H1 => xs.length ≤ sizeLine ∧ ∀ p, H1 p = none → Q (.ref p) (upd H1 p (.lst xs))) : tLst tr σ H Q := h
theorem r_tup {tr : TA} (h : tr σ H fun xs H1 => xs.length ≤ sizeLine ∧ ∀ p, H1 p = none → Q (.ref p) (upd H1 p (.tup xs))) : tTup tr σ H Q := h
theorem r_CB {tr : TA} {r : List V → Hp → VK → Prop} (h : tr σ H fun vs H1 => r vs H1 Q) : tCB r tr σ H Q := h
theorem r_call {tr : TA} {sp : Sp} {dvs : List V} {E : XK} (h : tr σ H fun vs H1 => sp (vs ++ dvs) H1 Q E) : tCall sp dvs E tr σ H Q := h
theorem r_sl {r : V → Option Int → Option Int → Hp → VK → Prop} {tl th : TO} (h : te σ H fun x H1 => tl σ H1 fun lo H2 => th σ H2 fun hi H3 => r x lo hi H3 Q) : tSl r te tl th σ H Q := h
theorem r_part {N : Option Int → Hp → Prop} (h : te σ H fun x H1 => ∃ i, x = .int i ∧ N (some i) H1) : tPart te σ H N := h
theorem r_int {i : Int} {N : Int → Prop} (h : N i) : ∃ k, V.int i = V.int k ∧ N k := ⟨i, rfl, h⟩
theorem r_noPart {N : Option Int → Hp → Prop} (h : N none H) : tNoPart σ H N := h
theorem r_bm {T : String} {r : V → List V → Hp → VK → Prop} {tr : TA} (h : te σ H fun x H1 => tyV K T x H1 ∧ tr σ H1 fun xs H2 => r x xs H2 Q) : tBM K T r te tr σ H Q := h
theorem r_bm0 {T : String} {r : V → List V → Hp → VK → Prop} (h : te σ H fun x H1 => tyV K T x H1 ∧ r x [] H1 Q) : tBM0 K T r te σ H Q := h
theorem r_fld {f : Str} (h : ta σ H fun x H1 => ∃ a C dx fs v, x = .ref a ∧ H1 a = some (.ins C dx fs) ∧ Cls K C ∧ NoAttr K C f ∧ fs.lookup f = some v ∧ Q v H1) : tFld K ta f σ H Q := h
theorem r_I0 {g : Int → Int → V} {i j : Int} (h : Q (g i j) H) : rI0 g (.int i) (.int j) H Q := ⟨i, j, rfl, rfl, h⟩
theorem r_I {C : Int → Int → Prop} {g : Int → Int → V} {i j : Int} (hc : C i j) (h : Q (g i j) H) : rI C g (.int i) (.int j) H Q := ⟨i, j, rfl, rfl, hc, h⟩
theorem r_U {g : Int → V} {i : Int} (h : Q (g i) H) : rU g (.int i) H Q := ⟨i, rfl, h⟩
/-- a Row: its attributes, where it stands -/
def rowF (l : Addr) : List (Str × V) := [("kept", .ref l)]
def RowOb (C : Addr) (H : Hp) (p l : Addr) : Prop := ∃ dx, H p = some (.ins C dx (rowF l))
theorem r_meth {C : Addr} {m : Str} {sp : Sp} {dvs : List V} {E : XK} {tr : TA} (h : ta σ H fun x H1 => ∃ a dx fs, x = .ref a ∧ H1 a = some (.ins C dx fs) ∧ fs.lookup m = none ∧ tr σ H1 fun vs H2 => sp (x :: (vs ++ dvs)) H2 Q E) : tMeth C m sp dvs E ta tr σ H Q := h
theorem r_make {C : Addr} {sp : Sp} {dvs : List V} {E : XK} {tr : TA} (h : tr σ H fun vs H1 => ∀ x dx, H1 x = none → H1 dx = none → dx ≠ x → sp (.ref x :: (vs ++ dvs)) (upd (upd H1 dx (.own x)) x (.ins C dx [])) (fun v H2 => v = .non ∧ Q (.ref x) H2) E) : tMake C sp dvs E tr σ H Q := h
theorem rowF_kept (l : Addr) : (rowF l).lookup ("kept" : Str) = some (.ref l) := by
  unfold rowF
  rw [List.lookup_cons]
  simp
theorem rowF_no (l : Addr) {m : Str} (h : ¬ m = "kept") : (rowF l).lookup m = none := by
  unfold rowF
  rw [List.lookup_cons]
  have e : (m == ("kept" : Str)) = false := by simpa using h
  rw [e]
  rfl
theorem r_fldR {p l C dx : Addr} (h : H p = some (.ins C dx (rowF l))) (c : Cls K C) (n : NoAttr K C "kept") {N : V → Prop} (q : N (.ref l)) : ∃ a C dx fs v, V.ref p = .ref a ∧ H a = some (.ins C dx fs) ∧ Cls K C ∧ NoAttr K C "kept" ∧ fs.lookup ("kept" : Str) = some v ∧ N v := ⟨p, C, dx, rowF l, _, rfl, h, c, n, rowF_kept l, q⟩
theorem r_methR {p l C dx : Addr} {m : Str} {N : Prop} (h : H p = some (.ins C dx (rowF l))) (hm : ¬ m = "kept") (q : N) : ∃ a dx fs, V.ref p = .ref a ∧ H a = some (.ins C dx fs) ∧ fs.lookup m = none ∧ N := ⟨p, dx, rowF l, rfl, h, rowF_no l hm, q⟩
theorem r_new {n : Nat} {N : Addr → Prop} (z : n ≤ 1000000) (q : ∀ p, H p = none → N p) : n ≤ sizeLine ∧ ∀ p, H p = none → N p := ⟨sz z, q⟩
theorem dec_int {i j : Int} : decide (V.int i = V.int j) = decide (i = j) := by
  by_cases h : i = j
  · rw [h, decide_eq_true rfl, decide_eq_true rfl]
  · rw [decide_eq_false h, decide_eq_false (fun e => h (V.int.inj e))]
theorem dec_bl {i j : Bool} : decide (V.bl i = V.bl j) = decide (i = j) := by
  by_cases h : i = j
  · rw [h, decide_eq_true rfl, decide_eq_true rfl]
  · rw [decide_eq_false h, decide_eq_false (fun e => h (V.bl.inj e))]
theorem r_eqI {i j : Int} (h : Q (.bl (decide (i = j))) H) : rEq (.int i) (.int j) H Q := ⟨rfl, by rw [dec_int]; exact h⟩
theorem r_neI {i j : Int} (h : Q (.bl (!decide (i = j))) H) : rNe (.int i) (.int j) H Q := ⟨rfl, by rw [dec_int]; exact h⟩
theorem r_eqB {i j : Bool} (h : Q (.bl (decide (i = j))) H) : rEq (.bl i) (.bl j) H Q := ⟨rfl, by rw [dec_bl]; exact h⟩
theorem r_neB {i j : Bool} (h : Q (.bl (!decide (i = j))) H) : rNe (.bl i) (.bl j) H Q := ⟨rfl, by rw [dec_bl]; exact h⟩
theorem r_isN {x : V} (h : Q (.bl (decide (x = .non))) H) : rIsN x .non H Q := ⟨rfl, h⟩
theorem r_notN {x : V} (h : Q (.bl (!decide (x = .non))) H) : rNotN x .non H Q := ⟨rfl, h⟩
/-- branches -/
theorem br {b : Bool} {A B : Prop} (h1 : b = true → A) (h2 : b = false → B) : if b = true then A else B := by
  cases b with
  | true => exact iteT (h1 rfl)
  | false => exact iteF (h2 rfl)
theorem brD {p : Prop} [Decidable p] {A B : Prop} (h1 : p → A) (h2 : ¬ p → B) : if decide p = true then A else B := by
  by_cases h : p
  · rw [if_pos (decide_eq_true h)]
    exact h1 h
  · rw [if_neg (by rw [decide_eq_false h]; exact Bool.false_ne_true)]
    exact h2 h
theorem brN {p : Prop} [Decidable p] {A B : Prop} (h1 : ¬ p → A) (h2 : p → B) : if (!decide p) = true then A else B := by
  by_cases h : p
  · rw [if_neg (by rw [decide_eq_true h]; exact Bool.false_ne_true)]
    exact h2 h
  · rw [if_pos (by rw [decide_eq_false h]; rfl)]
    exact h1 h
theorem brT {p : Prop} [Decidable p] {A B : Prop} (h : p) (h1 : A) : if decide p = true then A else B := brD (fun _ => h1) (fun n => absurd h n)
theorem brF {p : Prop} [Decidable p] {A B : Prop} (h : ¬ p) (h1 : B) : if decide p = true then A else B := brD (fun n => absurd n h) (fun _ => h1)
theorem brNT {p : Prop} [Decidable p] {A B : Prop} (h : ¬ p) (h1 : A) : if (!decide p) = true then A else B := brN (fun _ => h1) (fun n => absurd n h)
theorem brNF {p : Prop} [Decidable p] {A B : Prop} (h : p) (h1 : B) : if (!decide p) = true then A else B := brN (fun n => absurd h n) (fun _ => h1)
/-- and, or of two tests that leave the heap: one answer -/
theorem r_andD {p q : Bool} {N : Bool → Hp → Prop} (h1 : ∀ Z : Bool → Hp → Prop, Z p H → tt σ H Z) (h2 : ∀ Z : Bool → Hp → Prop, Z q H → tu σ H Z) (h : N (p && q) H) : tAnd tt tu σ H N := by
  refine h1 _ ?_
  cases p with
  | true => exact iteT (h2 _ h)
  | false => exact iteF h
theorem r_orD {p q : Bool} {N : Bool → Hp → Prop} (h1 : ∀ Z : Bool → Hp → Prop, Z p H → tt σ H Z) (h2 : ∀ Z : Bool → Hp → Prop, Z q H → tu σ H Z) (h : N (p || q) H) : tOr tt tu σ H N := by
  refine h1 _ ?_
  cases p with
  | true => exact iteT h
  | false => exact iteF (h2 _ h)
theorem brA {p q : Prop} [Decidable p] [Decidable q] {A B : Prop} (h1 : p → q → A) (h2 : ¬ (p ∧ q) → B) : if (decide p && decide q) = true then A else B := by
  by_cases hp : p
  · by_cases hq : q
    · rw [decide_eq_true hp, decide_eq_true hq]
      exact iteT (h1 hp hq)
    · rw [decide_eq_false hq, Bool.and_false]
      exact iteF (h2 fun z => hq z.2)
  · rw [decide_eq_false hp, Bool.false_and]
    exact iteF (h2 fun z => hp z.1)
theorem brO {p q : Prop} [Decidable p] [Decidable q] {A B : Prop} (h1 : p ∨ q → A) (h2 : ¬ p → ¬ q → B) : if (decide p || decide q) = true then A else B := by
  by_cases hp : p
  · rw [decide_eq_true hp, Bool.true_or]
    exact iteT (h1 (.inl hp))
  · by_cases hq : q
    · rw [decide_eq_true hq, Bool.or_true]
      exact iteT (h1 (.inr hq))
    · rw [decide_eq_false hp, decide_eq_false hq]
      exact iteF (h2 hp hq)
theorem r_len {p : Addr} {ys : List V} (h : SqL K H p ys) (q : Q (.int (ys.length : Int)) H) : rLen K [.ref p] H Q := ⟨p, ys, rfl, .inl h, q⟩
theorem r_lenI {p : Addr} {ns : List Int} (h : SqL K H p (ns.map V.int)) (q : Q (.int (ns.length : Int)) H) : rLen K [.ref p] H Q := ⟨p, _, rfl, .inl h, by rw [List.length_map]; exact q⟩
theorem r_lenT {p : Addr} {ys : List V} (h : SqT K H p ys) (q : Q (.int (ys.length : Int)) H) : rLen K [.ref p] H Q := ⟨p, ys, rfl, .inr h, q⟩
theorem r_listOf {p : Addr} {ys : List V} (h : SqL K H p ys) (q : ∀ l, H l = none → Q (.ref l) (upd H l (.lst ys))) : rListOf K [.ref p] H Q := ⟨p, ys, rfl, .inl h, q⟩
theorem r_index3 {a : Addr} {ns : List Int} {y i : Int} {j : Nat} (h : SqL K H a (ns.map V.int)) (h0 : 0 ≤ i) (h1 : i.toNat ≤ j) (hj : ns[j]? = some y) (hn : ∀ m : Nat, i.toNat ≤ m → m < j → ns[m]? ≠ some y) (q : Q (.int (j : Nat)) H) : rIndex3 K (.ref a) [.int y, .int i] H Q := ⟨a, ns, y, i, j, rfl, rfl, h, h0, h1, hj, hn, q⟩
theorem r_min {a : Addr} {ns : List Int} (h : SqL K H a (ns.map V.int)) (hn : 0 < ns.length) (q : ∀ m, m ∈ ns → (∀ x, x ∈ ns → m ≤ x) → Q (.int m) H) : rMin K [.ref a] H Q := ⟨a, ns, rfl, h, hn, q⟩
theorem r_max {a : Addr} {ns : List Int} (h : SqL K H a (ns.map V.int)) (hn : 0 < ns.length) (q : ∀ m, m ∈ ns → (∀ x, x ∈ ns → x ≤ m) → Q (.int m) H) : rMax K [.ref a] H Q := ⟨a, ns, rfl, h, hn, q⟩
theorem r_sum {a : Addr} {ns : List Int} (h : SqL K H a (ns.map V.int)) (q : Q (.int ns.sum) H) : rSum K [.ref a] H Q := ⟨a, ns, rfl, h, q⟩
theorem r_min2 {i j : Int} (q : Q (.int (if j < i then j else i)) H) : rMin2 [.int i, .int j] H Q := ⟨i, j, rfl, q⟩
theorem r_max2 {i j : Int} (q : Q (.int (if j > i then j else i)) H) : rMax2 [.int i, .int j] H Q := ⟨i, j, rfl, q⟩
theorem r_abs {i : Int} (q : Q (.int (if i < 0 then -i else i)) H) : rAbs [.int i] H Q := ⟨i, rfl, q⟩
theorem r_ixL {p : Addr} {xs : List V} {i : Int} {v : V} (h : SqL K H p xs) (ha : atI xs i = some v) (q : Q v H) : rIxL K (.ref p) (.int i) H Q := ⟨p, xs, i, v, rfl, rfl, h, ha, q⟩
theorem r_ixT {p : Addr} {xs : List V} {i : Int} {v : V} (h : SqT K H p xs) (ha : atI xs i = some v) (q : Q v H) : rIxT K (.ref p) (.int i) H Q := ⟨p, xs, i, v, rfl, rfl, h, ha, q⟩
theorem r_slL {p : Addr} {xs : List V} {lo hi : Option Int} (h : SqL K H p xs) (q : ∀ l, H l = none → Q (.ref l) (upd H l (.lst (cutV xs lo hi)))) : rSlL K (.ref p) lo hi H Q := ⟨p, xs, rfl, h, q⟩
theorem r_cat {l b : Addr} {xs zs : List V} (h : H l = some (.lst xs)) (h' : H b = some (.lst zs)) (z : xs.length + zs.length ≤ 1000000) (q : ∀ p, H p = none → Q (.ref p) (upd H p (.lst (xs ++ zs)))) : rCat (.ref l) (.ref b) H Q := ⟨l, b, xs, zs, rfl, rfl, h, h', sz z, q⟩
theorem r_app {l : Addr} {xs : List V} {v : V} (h : H l = some (.lst xs)) (z : xs.length ≤ 1000000) (q : Q .non (upd H l (.lst (xs ++ [v])))) : rAppend (.ref l) [v] H Q := ⟨l, xs, v, rfl, rfl, h, szl z, q⟩
theorem r_tyL {p : Addr} {xs : List V} {N : Prop} (h : SqL K H p xs) (q : N) : tyV K "list" (.ref p) H ∧ N := ⟨.inl ⟨rfl, xs, h⟩, q⟩
theorem r_ins {l : Addr} {xs : List V} {i : Int} {y : V} (h : H l = some (.lst xs)) (z : xs.length ≤ 1000000) (i0 : 0 ≤ i) (i1 : i ≤ 1000000) (q : Q .non (upd H l (.lst (xs.take i.toNat ++ [y] ++ xs.drop i.toNat)))) : rIns (.ref l) [.int i, y] H Q := ⟨l, xs, i, y, rfl, rfl, h, szl z, i0, Int.lt_of_le_of_lt i1 (by decide), q⟩
theorem map_erase (ns : List Int) (k : Nat) : (ns.map V.int).eraseIdx k = (ns.eraseIdx k).map V.int := by
  induction ns generalizing k with
  | nil => rfl
  | cons a r ih =>
    cases k with
    | zero => rfl
    | succ k =>
      show V.int a :: (r.map V.int).eraseIdx k = V.int a :: (r.eraseIdx k).map V.int
      rw [ih]
theorem seq_ix {n : Nat} {i : Int} (h0 : 0 ≤ i) (h1 : i < (n : Int)) : seqIndex? i n = some i.toNat := by
  have e : ixN n i = some i.toNat := by
    unfold ixN
    rw [if_pos h0, if_pos h1]
  exact (ixN_seq e).1
theorem snoc_int (ns : List Int) (x : Int) : ns.map V.int ++ [V.int x] = (ns ++ [x]).map V.int := by
  rw [List.map_append]
  rfl
theorem r_popAt {l : Addr} {ns : List Int} {i z : Int} (h : H l = some (.lst (ns.map V.int))) (h0 : 0 ≤ i) (h1 : i < 1000000) (hz : ns[i.toNat]? = some z) (q : Q (.int z) (upd H l (.lst ((ns.eraseIdx i.toNat).map V.int)))) : rPopAt (.ref l) [.int i] H Q := by
  have hi : i.toNat < ns.length := (List.getElem?_eq_some_iff.mp hz).1
  refine ⟨l, ns.map V.int, i, i.toNat, .int z, rfl, rfl, h, by omega, by omega, ?_, ?_, ?_⟩
  · rw [List.length_map]
    exact seq_ix h0 (by omega)
  · rw [List.getElem?_map, hz] <;> rfl
  · rw [map_erase]
    exact q
theorem sIx_int {n d : Nat} {i : Int} (h0 : 0 ≤ i) (h1 : i ≤ (n : Int)) : HT.sIx n d (some i) = i.toNat := by
  have e : i = ((i.toNat : Nat) : Int) := by omega
  rw [e, HT.sIx_nat, Int.toNat_natCast]
  omega
theorem cut_take {xs : List V} {i : Int} (h0 : 0 ≤ i) (h1 : i ≤ (xs.length : Int)) : cutV xs none (some i) = xs.take i.toNat := by
  unfold cutV
  rw [sIx_int h0 h1, HT.sIx_none, List.drop_zero, Nat.sub_zero]
theorem cut_drop {xs : List V} {i : Int} (h0 : 0 ≤ i) (h1 : i ≤ (xs.length : Int)) : cutV xs (some i) none = xs.drop i.toNat := by
  unfold cutV
  rw [sIx_int h0 h1, HT.sIx_none]
  exact List.take_of_length_le (by rw [List.length_drop]; exact Nat.le_refl _)
theorem cut_mid {xs : List V} {i j : Int} (h0 : 0 ≤ i) (h1 : i ≤ (xs.length : Int)) (h2 : 0 ≤ j) (h3 : j ≤ (xs.length : Int)) : cutV xs (some i) (some j) = (xs.drop i.toNat).take (j.toNat - i.toNat) := by
  unfold cutV
  rw [sIx_int h0 h1, sIx_int h2 h3]
theorem cut_takeI {ns : List Int} {i : Int} (h0 : 0 ≤ i) (h1 : i ≤ (ns.length : Int)) : cutV (ns.map V.int) none (some i) = (ns.take i.toNat).map V.int := by
  rw [cut_take h0 (by rw [List.length_map]; exact h1), List.map_take]
theorem cut_dropI {ns : List Int} {i : Int} (h0 : 0 ≤ i) (h1 : i ≤ (ns.length : Int)) : cutV (ns.map V.int) (some i) none = (ns.drop i.toNat).map V.int := by
  rw [cut_drop h0 (by rw [List.length_map]; exact h1), List.map_drop]
theorem cut_midI {ns : List Int} {i j : Int} (h0 : 0 ≤ i) (h1 : i ≤ (ns.length : Int)) (h2 : 0 ≤ j) (h3 : j ≤ (ns.length : Int)) : cutV (ns.map V.int) (some i) (some j) = ((ns.drop i.toNat).take (j.toNat - i.toNat)).map V.int := by
  rw [cut_mid h0 (by rw [List.length_map]; exact h1) h2 (by rw [List.length_map]; exact h3), List.map_take, List.map_drop]
theorem cut_int (ns : List Int) (lo hi : Option Int) : ∃ ms : List Int, cutV (ns.map V.int) lo hi = ms.map V.int ∧ ms.length ≤ ns.length := by
  refine ⟨(ns.drop (HT.sIx ns.length 0 lo)).take (HT.sIx ns.length ns.length hi - HT.sIx ns.length 0 lo), ?_, ?_⟩
  · unfold cutV
    rw [List.length_map, List.map_take, List.map_drop]
  · rw [List.length_take, List.length_drop]
    omega
theorem same_made {H H' : Hp} {x dx C : Addr} (nx : H x = none) (nd : H dx = none) (k : But x (upd (upd H dx (.own x)) x (.ins C dx [])) H') : Same H H' := fun b o e =>
  k b o (by rw [upd_ne (ne_of_none e nx), upd_ne (ne_of_none e nd)]; exact e) (ne_of_none e nx)
theorem r_at {xs : List V} {j : Nat} {v : V} {i : Int} (e : i = (j : Int)) (h : xs[j]? = some v) : atI xs i = some v := by
  rw [e]
  exact atI_nat h
/-- comparison of data -/
def pdV : V → PyData
  | .bl b => .bool b
  | .int i => .int i
  | _ => .none
def okV : V → Bool
  | .non => true
  | .int _ => true
  | _ => false
theorem okV_eqv : ∀ {x y : V}, okV x = true → okV y = true → PyData.eqv (pdV x) (pdV y) = decide (x = y)
  | .non, .non, _, _ => by rw [decide_eq_true rfl] <;> rfl
  | .non, .int j, _, _ => by rw [decide_eq_false (by intro h; cases h)] <;> rfl
  | .int i, .non, _, _ => by rw [decide_eq_false (by intro h; cases h)] <;> rfl
  | .int i, .int j, _, _ => by rw [dec_int] <;> rfl
theorem eqv_flat : ∀ {xs ys : List V}, xs.all okV = true → ys.all okV = true → PyData.eqvAll (xs.map pdV) (ys.map pdV) = decide (xs = ys)
  | [], [], _, _ => by rw [decide_eq_true rfl] <;> rfl
  | [], y :: ys, _, _ => by rw [decide_eq_false (by intro h; cases h)] <;> rfl
  | x :: xs, [], _, _ => by rw [decide_eq_false (by intro h; cases h)] <;> rfl
  | x :: xs, y :: ys, h1, h2 => by
    rw [List.all_cons, Bool.and_eq_true] at h1 h2
    have ih := eqv_flat (xs := xs) (ys := ys) h1.2 h2.2
    have e1 := okV_eqv h1.1 h2.1
    show (PyData.eqv (pdV x) (pdV y) && PyData.eqvAll (xs.map pdV) (ys.map pdV)) = _
    rw [ih, e1]
    by_cases a : x = y
    · by_cases b : xs = ys
      · rw [a, b]
        simp
      · rw [decide_eq_false b, Bool.and_false, decide_eq_false (by intro h; cases h; exact b rfl)]
    · rw [decide_eq_false a, Bool.false_and, decide_eq_false (by intro h; cases h; exact a rfl)]
theorem dpAll_flat {H : Hp} : ∀ {xs : List V}, xs.all okV = true → DpAll K H xs (xs.map pdV)
  | [], _ => .nil
  | .non :: xs, h => .cons .non (dpAll_flat (by rw [List.all_cons, Bool.and_eq_true] at h; exact h.2))
  | .int i :: xs, h => .cons (.int i) (dpAll_flat (by rw [List.all_cons, Bool.and_eq_true] at h; exact h.2))
theorem lay_flat : ∀ {xs : List V}, xs.all okV = true → PyData.canLayAll0 (xs.map pdV) = true ∧ PyData.depthAll (xs.map pdV) = 0
  | [], _ => ⟨rfl, rfl⟩
  | .non :: xs, h => by
    have ih := lay_flat (xs := xs) (by rw [List.all_cons, Bool.and_eq_true] at h; exact h.2)
    exact ⟨by show (true && PyData.canLayAll0 (xs.map pdV)) = true; rw [ih.1] <;> rfl, by show max 0 (PyData.depthAll (xs.map pdV)) = 0; rw [ih.2] <;> rfl⟩
  | .int i :: xs, h => by
    have ih := lay_flat (xs := xs) (by rw [List.all_cons, Bool.and_eq_true] at h; exact h.2)
    exact ⟨by show (true && PyData.canLayAll0 (xs.map pdV)) = true; rw [ih.1] <;> rfl, by show max 0 (PyData.depthAll (xs.map pdV)) = 0; rw [ih.2] <;> rfl⟩
theorem shaped_flat {xs : List V} (h : xs.all okV = true) : SeqAt.shaped (.list (xs.map pdV)) = true := by
  obtain ⟨a, b⟩ := lay_flat h
  show (PyData.canLayAll0 (xs.map pdV) && decide (PyData.depthAll (xs.map pdV) + 1 ≤ 64)) = true
  rw [a, b]
  rfl
theorem shaped_flatT {xs : List V} (h : xs.all okV = true) : SeqAt.shaped (.tuple (xs.map pdV)) = true := by
  obtain ⟨a, b⟩ := lay_flat h
  show (PyData.canLayAll0 (xs.map pdV) && decide (PyData.depthAll (xs.map pdV) + 1 ≤ 64)) = true
  rw [a, b]
  rfl
theorem r_eqL {a b : Addr} {xs ys : List V} (h : SqL K H a xs) (h' : SqL K H b ys) (o : xs.all okV = true) (o' : ys.all okV = true) (q : Q (.bl (decide (xs = ys))) H) : rEqD K (.ref a) (.ref b) H Q :=
  ⟨_, _, .lst h (dpAll_flat o), .lst h' (dpAll_flat o'), shaped_flat o, shaped_flat o', by
    show Q (.bl (PyData.eqvAll (xs.map pdV) (ys.map pdV))) H
    rw [eqv_flat o o']
    exact q⟩
theorem r_neL {a b : Addr} {xs ys : List V} (h : SqL K H a xs) (h' : SqL K H b ys) (o : xs.all okV = true) (o' : ys.all okV = true) (q : Q (.bl (!decide (xs = ys))) H) : rNeD K (.ref a) (.ref b) H Q :=
  ⟨_, _, .lst h (dpAll_flat o), .lst h' (dpAll_flat o'), shaped_flat o, shaped_flat o', by
    show Q (.bl (!PyData.eqvAll (xs.map pdV) (ys.map pdV))) H
    rw [eqv_flat o o']
    exact q⟩
theorem r_eqT {a b : Addr} {xs ys : List V} (h : SqT K H a xs) (h' : SqT K H b ys) (o : xs.all okV = true) (o' : ys.all okV = true) (q : Q (.bl (decide (xs = ys))) H) : rEqD K (.ref a) (.ref b) H Q :=
  ⟨_, _, .tup h (dpAll_flat o), .tup h' (dpAll_flat o'), shaped_flatT o, shaped_flatT o', by
    show Q (.bl (PyData.eqvAll (xs.map pdV) (ys.map pdV))) H
    rw [eqv_flat o o']
    exact q⟩
theorem r_neT {a b : Addr} {xs ys : List V} (h : SqT K H a xs) (h' : SqT K H b ys) (o : xs.all okV = true) (o' : ys.all okV = true) (q : Q (.bl (!decide (xs = ys))) H) : rNeD K (.ref a) (.ref b) H Q :=
  ⟨_, _, .tup h (dpAll_flat o), .tup h' (dpAll_flat o'), shaped_flatT o, shaped_flatT o', by
    show Q (.bl (!PyData.eqvAll (xs.map pdV) (ys.map pdV))) H
    rw [eqv_flat o o']
    exact q⟩
theorem all_int (ns : List Int) : (ns.map V.int).all okV = true := by
  rw [List.all_map]
  exact List.all_eq_true.mpr fun _ _ => rfl
theorem map_int_inj {a b : List Int} (h : a.map V.int = b.map V.int) : a = b := by
  have := congrArg (List.map fun v => match v with | V.int i => i | _ => 0) h
  rw [List.map_map, List.map_map] at this
  have e : ((fun v => match v with | V.int i => i | _ => 0) ∘ V.int) = (id : Int → Int) := by funext x; rfl
  rw [e, List.map_id, List.map_id] at this
  exact this
theorem dec_ints {a b : List Int} : decide (a.map V.int = b.map V.int) = decide (a = b) := by
  by_cases h : a = b
  · rw [h, decide_eq_true rfl, decide_eq_true rfl]
  · rw [decide_eq_false h, decide_eq_false (fun e => h (map_int_inj e))]
/-- isinstance -/
theorem r_isiT {x : V} {a b : String} (ty : TyX K H x (.type a)) (h : kitB a b = some true) (q : Q (.bl true) H) : rIsi K [x, .ty b] H Q := ⟨x, .ty b, .type a, .type b, true, rfl, .ty b, ty, kit_ty h, q⟩
theorem r_isiF {x : V} {a b : String} (ty : TyX K H x (.type a)) (h : kitB a b = some false) (q : Q (.bl false) H) : rIsi K [x, .ty b] H Q := ⟨x, .ty b, .type a, .type b, false, rfl, .ty b, ty, kit_ty h, q⟩
theorem tyX_sq {a : Addr} {xs : List V} (h : SqL K H a xs) : TyX K H (.ref a) (.type "list") := by
  rcases h with (h | ⟨o, h⟩) | ⟨o, its, n, h1, h2, _⟩
  · exact .base (.lst h)
  · exact .base (.frz h)
  · exact .kList h1 h2

/-! ### loops: the reading waits at one of these, its arguments seen -/
def LoopR (lo : Int) (n j : Nat) (tb : TS) : TS := fun D σ H => ∃ W : Nat → Nat → L2.St → Hp → Prop, (∃ m, W 0 m σ H) ∧ ∀ i m σ H, W i m σ H →
  ((Itr lo n).stop i H ∧ D.nx σ H) ∨ ((Itr lo n).go i H ∧ ∃ N : L2.St → Hp → Prop, (∀ σ' H', N σ' H' → ∃ m', m' < m ∧ W (i + 1) m' σ' H') ∧ ∀ x H', (Itr lo n).yld i H x H' → gName j x σ H' fun σ2 H2 => tb ⟨N, D.rt, D.nx, N⟩ σ2 H2)
def LoopL (K : PySem.W.Frag) (a : Addr) (j : Nat) (tb : TS) : TS := fun D σ H => ∃ W : Nat → Nat → L2.St → Hp → Prop, (∃ m, W 0 m σ H) ∧ ∀ i m σ H, W i m σ H →
  ((Itl K a).stop i H ∧ D.nx σ H) ∨ ((Itl K a).go i H ∧ ∃ N : L2.St → Hp → Prop, (∀ σ' H', N σ' H' → ∃ m', m' < m ∧ W (i + 1) m' σ' H') ∧ ∀ x H', (Itl K a).yld i H x H' → gName j x σ H' fun σ2 H2 => tb ⟨N, D.rt, D.nx, N⟩ σ2 H2)
def LoopC (lo c : Int) (n j : Nat) (tb : TS) : TS := fun D σ H => ∃ W : Nat → Nat → L2.St → Hp → Prop, (∃ m, W 0 m σ H) ∧ ∀ i m σ H, W i m σ H →
  ((Itc lo c n).stop i H ∧ D.nx σ H) ∨ ((Itc lo c n).go i H ∧ ∃ N : L2.St → Hp → Prop, (∀ σ' H', N σ' H' → ∃ m', m' < m ∧ W (i + 1) m' σ' H') ∧ ∀ x H', (Itc lo c n).yld i H x H' → gName j x σ H' fun σ2 H2 => tb ⟨N, D.rt, D.nx, N⟩ σ2 H2)
theorem r_for1 {tr : TA} {j : Nat} {tb : TS} (h : tr σ H fun vs H1 => ∃ n : Int, vs = [.int n] ∧ -(2 ^ 62) ≤ n ∧ n < 2 ^ 62 ∧ LoopR 0 n.toNat j tb ⟨nx, rt, bk, ct⟩ σ H1) : tFor (iRng1 tr) (gName j) tb ⟨nx, rt, bk, ct⟩ σ H := h
theorem r_rng1 {n : Int} {N : Int → Prop} (h : -1000000 ≤ n ∧ n ≤ 1000000) (q : N n) : ∃ m : Int, ([.int n] : List V) = [.int m] ∧ -(2 ^ 62) ≤ m ∧ m < 2 ^ 62 ∧ N m := ⟨n, rfl, by omega, by omega, q⟩
theorem r_for2 {tr : TA} {j : Nat} {tb : TS} (h : tr σ H fun vs H1 => ∃ m n : Int, vs = [.int m, .int n] ∧ (-(2 ^ 62) ≤ m ∧ m < 2 ^ 62 ∧ -(2 ^ 62) ≤ n ∧ n < 2 ^ 62) ∧ LoopR m (n - m).toNat j tb ⟨nx, rt, bk, ct⟩ σ H1) : tFor (iRng2 tr) (gName j) tb ⟨nx, rt, bk, ct⟩ σ H := h
theorem r_rng2 {m n : Int} {N : Int → Int → Prop} (h : -1000000 ≤ m ∧ m ≤ 1000000 ∧ -1000000 ≤ n ∧ n ≤ 1000000) (q : N m n) : ∃ a b : Int, ([.int m, .int n] : List V) = [.int a, .int b] ∧ (-(2 ^ 62) ≤ a ∧ a < 2 ^ 62 ∧ -(2 ^ 62) ≤ b ∧ b < 2 ^ 62) ∧ N a b := ⟨m, n, rfl, ⟨by omega, by omega, by omega, by omega⟩, q⟩
theorem r_forL {j : Nat} {tb : TS} (h : te σ H fun x H1 => ∃ a, x = .ref a ∧ (∃ xs, SqL K H1 a xs) ∧ LoopL K a j tb ⟨nx, rt, bk, ct⟩ σ H1) : tFor (iList K te) (gName j) tb ⟨nx, rt, bk, ct⟩ σ H := h
theorem r_itL {a : Addr} {xs : List V} {N : Addr → Prop} (h : SqL K H a xs) (q : N a) : ∃ b, V.ref a = .ref b ∧ (∃ xs, SqL K H b xs) ∧ N b := ⟨a, rfl, ⟨xs, h⟩, q⟩
theorem r_forC {j : Nat} {tb : TS} {tr : L2.St → Hp → (Int → Int → Hp → Prop) → Prop} (h : tr σ H fun a b H1 => -(2 ^ 62) ≤ a ∧ a < 2 ^ 62 ∧ -(2 ^ 62) ≤ b ∧ b < 2 ^ 62 ∧ LoopC (a + (((b - a).toNat : Nat) : Int) - 1) (-1) (b - a).toNat j tb ⟨nx, rt, bk, ct⟩ σ H1) : tFor (iRevR tr) (gName j) tb ⟨nx, rt, bk, ct⟩ σ H := h
theorem r_loopR {lo : Int} {n j : Nat} {tb : TS} (Pv : Nat → L2.St → Hp → Prop) (h0 : Pv 0 σ H)
    (hs : ∀ i σ' H', i < n → Pv i σ' H' → tb ⟨Pv (i + 1), rt, nx, Pv (i + 1)⟩ (σ'.set j (some (.int (lo + (i : Int))))) H') (hd : ∀ σ' H', Pv n σ' H' → nx σ' H') : LoopR lo n j tb ⟨nx, rt, bk, ct⟩ σ H :=
  for_range (g := gName j) Pv h0 hs hd
theorem r_loop0 {n j : Nat} {tb : TS} (Pv : Nat → L2.St → Hp → Prop) (h0 : Pv 0 σ H)
    (hs : ∀ i σ' H', i < n → Pv i σ' H' → tb ⟨Pv (i + 1), rt, nx, Pv (i + 1)⟩ (σ'.set j (some (.int (i : Int)))) H') (hd : ∀ σ' H', Pv n σ' H' → nx σ' H') : LoopR 0 n j tb ⟨nx, rt, bk, ct⟩ σ H :=
  r_loopR Pv h0 (fun i σ' H' hi hp => by
    have e : (0 : Int) + (i : Int) = (i : Int) := Int.zero_add _
    rw [e]
    exact hs i σ' H' hi hp) hd
theorem r_loopC {lo c : Int} {n j : Nat} {tb : TS} (Pv : Nat → L2.St → Hp → Prop) (h0 : Pv 0 σ H)
    (hs : ∀ i σ' H', i < n → Pv i σ' H' → tb ⟨Pv (i + 1), rt, nx, Pv (i + 1)⟩ (σ'.set j (some (.int (lo + (i : Nat) * c)))) H') (hd : ∀ σ' H', Pv n σ' H' → nx σ' H') : LoopC lo c n j tb ⟨nx, rt, bk, ct⟩ σ H :=
  for_rangeC (g := gName j) Pv h0 hs hd
theorem r_loopL {a : Addr} {xs : List V} {j : Nat} {tb : TS} (Pv : Nat → L2.St → Hp → Prop) (h0 : Pv 0 σ H) (hl : ∀ i σ' H', i ≤ xs.length → Pv i σ' H' → SqL K H' a xs)
    (hs : ∀ i x σ' H', xs[i]? = some x → Pv i σ' H' → tb ⟨Pv (i + 1), rt, nx, Pv (i + 1)⟩ (σ'.set j (some x)) H') (hd : ∀ σ' H', Pv xs.length σ' H' → nx σ' H') : LoopL K a j tb ⟨nx, rt, bk, ct⟩ σ H :=
  for_list (g := gName j) Pv h0 hl hs hd
theorem nth_int {ns : List Int} {i : Nat} {x : V} (h : (ns.map V.int)[i]? = some x) : ∃ z, ns[i]? = some z ∧ x = .int z := by
  rw [List.getElem?_map] at h
  cases e : ns[i]? with
  | none =>
    rw [e] at h
    cases h
  | some z =>
    rw [e] at h
    exact ⟨z, rfl, (Option.some.inj h).symm⟩
theorem r_loopI {a : Addr} {ns : List Int} {j : Nat} {tb : TS} (Pv : Nat → L2.St → Hp → Prop) (h0 : Pv 0 σ H) (hl : ∀ i σ' H', i ≤ ns.length → Pv i σ' H' → SqL K H' a (ns.map V.int))
    (hs : ∀ i z σ' H', ns[i]? = some z → Pv i σ' H' → tb ⟨Pv (i + 1), rt, nx, Pv (i + 1)⟩ (σ'.set j (some (.int z))) H') (hd : ∀ σ' H', Pv ns.length σ' H' → nx σ' H') : LoopL K a j tb ⟨nx, rt, bk, ct⟩ σ H :=
  r_loopL (xs := ns.map V.int) Pv h0 (fun i σ' H' hi => hl i σ' H' (by rw [List.length_map] at hi; exact hi)) (fun i x σ' H' hi hp => by
    obtain ⟨z, hz, rfl⟩ := nth_int hi
    exact hs i z σ' H' hz hp) (fun σ' H' hp => hd σ' H' (by rw [List.length_map] at hp; exact hp))
theorem r_while (W : Nat → L2.St → Hp → Prop) (m0 : Nat) (h0 : W m0 σ H)
    (hs : ∀ m σ' H', W m σ' H' → tt σ' H' fun b H1 => if b = true then ∃ N : L2.St → Hp → Prop, (∀ σ2 H2, N σ2 H2 → ∃ m', m' < m ∧ W m' σ2 H2) ∧ t ⟨N, rt, nx, N⟩ σ' H1 else nx σ' H1) : tWhile tt t ⟨nx, rt, bk, ct⟩ σ H :=
  ⟨W, ⟨m0, h0⟩, hs⟩
theorem r_wh {W : Nat → L2.St → Hp → Prop} {m : Nat} (h : t ⟨fun σ2 H2 => ∃ m', m' < m ∧ W m' σ2 H2, rt, nx, fun σ2 H2 => ∃ m', m' < m ∧ W m' σ2 H2⟩ σ H) :
    ∃ N : L2.St → Hp → Prop, (∀ σ2 H2, N σ2 H2 → ∃ m', m' < m ∧ W m' σ2 H2) ∧ t ⟨N, rt, nx, N⟩ σ H := ⟨_, fun _ _ h => h, h⟩
theorem r_rg1 {N : Int → Int → Hp → Prop} (h : ta σ H fun x H1 => ∃ n, x = .int n ∧ N 0 n H1) : tRg1 ta σ H N := h
theorem r_rg2 {N : Int → Int → Hp → Prop} (h : ta σ H fun x H1 => tb σ H1 fun y H2 => ∃ i j, x = .int i ∧ y = .int j ∧ N i j H2) : tRg2 ta tb σ H N := h
theorem r_ij {i j : Int} {N : Int → Int → Prop} (h : N i j) : ∃ a b, V.int i = V.int a ∧ V.int j = V.int b ∧ N a b := ⟨i, j, rfl, rfl, h⟩
theorem r_rngC {i j : Int} {N : Prop} (h : -1000000 ≤ i ∧ i ≤ 1000000 ∧ -1000000 ≤ j ∧ j ≤ 1000000) (q : N) : -(2 ^ 62) ≤ i ∧ i < 2 ^ 62 ∧ -(2 ^ 62) ≤ j ∧ j < 2 ^ 62 ∧ N := ⟨by omega, by omega, by omega, by omega, q⟩
theorem r_index1 {a : Addr} {ns : List Int} {y : Int} {j : Nat} (h : SqL K H a (ns.map V.int)) (hj : ns[j]? = some y) (hno : ∀ m : Nat, m < j → ns[m]? ≠ some y) (q : Q (.int (j : Nat)) H) : rIndex K (.ref a) [.int y] H Q := by
  refine ⟨a, ns.map V.int, .int y, j, .int y, rfl, rfl, h, rfl, by rw [List.all_map]; exact List.all_eq_true.mpr fun _ _ => rfl, by rw [List.getElem?_map, hj] <;> rfl, ?_, fun m z hm hz => ?_, q⟩
  · show (y == y) = true
    exact beq_self_eq_true y
  · rw [List.getElem?_map] at hz
    cases e : ns[m]? with
    | none =>
      rw [e] at hz
      cases hz
    | some x =>
      rw [e] at hz
      obtain rfl := Option.some.inj hz
      show (x == y) = false
      exact beq_eq_false_iff_ne.mpr fun z => hno m hm (by rw [e, z])
def LoopT (K : PySem.W.Frag) (a : Addr) (j : Nat) (tb : TS) : TS := fun D σ H => ∃ W : Nat → Nat → L2.St → Hp → Prop, (∃ m, W 0 m σ H) ∧ ∀ i m σ H, W i m σ H →
  ((Itt K a).stop i H ∧ D.nx σ H) ∨ ((Itt K a).go i H ∧ ∃ N : L2.St → Hp → Prop, (∀ σ' H', N σ' H' → ∃ m', m' < m ∧ W (i + 1) m' σ' H') ∧ ∀ x H', (Itt K a).yld i H x H' → gName j x σ H' fun σ2 H2 => tb ⟨N, D.rt, D.nx, N⟩ σ2 H2)
theorem r_forT {j : Nat} {tb : TS} (h : te σ H fun x H1 => ∃ a, x = .ref a ∧ (∃ xs, SqT K H1 a xs) ∧ LoopT K a j tb ⟨nx, rt, bk, ct⟩ σ H1) : tFor (iTup K te) (gName j) tb ⟨nx, rt, bk, ct⟩ σ H := h
theorem r_itT {a : Addr} {xs : List V} {N : Addr → Prop} (h : SqT K H a xs) (q : N a) : ∃ b, V.ref a = .ref b ∧ (∃ xs, SqT K H b xs) ∧ N b := ⟨a, rfl, ⟨xs, h⟩, q⟩
theorem r_loopT {a : Addr} {xs : List V} {j : Nat} {tb : TS} (Pv : Nat → L2.St → Hp → Prop) (h0 : Pv 0 σ H) (hl : ∀ i σ' H', i ≤ xs.length → Pv i σ' H' → SqT K H' a xs)
    (hs : ∀ i x σ' H', xs[i]? = some x → Pv i σ' H' → tb ⟨Pv (i + 1), rt, nx, Pv (i + 1)⟩ (σ'.set j (some x)) H') (hd : ∀ σ' H', Pv xs.length σ' H' → nx σ' H') : LoopT K a j tb ⟨nx, rt, bk, ct⟩ σ H :=
  for_tup (g := gName j) Pv h0 hl hs hd
/-! comprehensions -/
def LcL (K : PySem.W.Frag) (a : Addr) (j : Nat) (tt : TT) (te : TE) (vs : List Nat) : TE := fun σ H Q => ∀ D, H D = none → ∃ W : Nat → Nat → Hp → Prop, (∃ m, W 0 m (upd H D (.lst []))) ∧ ∀ i m H, W i m H →
  ((Itl K a).stop i H ∧ Q (.ref D) H) ∨ ((Itl K a).go i H ∧ ∃ Nx : Hp → Prop, (∀ H', Nx H' → ∃ m', m' < m ∧ W (i + 1) m' H') ∧ ∀ x H', (Itl K a).yld i H x H' → gName j x (wipe σ vs) H' fun σ2 H2 => wipe σ2 vs = wipe σ vs ∧ tt σ2 H2 fun b H3 =>
    if b = true then te σ2 H3 fun y H4 => ∃ acc, H4 D = some (.lst acc) ∧ acc.length < sizeLine ∧ Nx (upd H4 D (.lst (acc ++ [y]))) else Nx H3)
def LcR (lo : Int) (n j : Nat) (tt : TT) (te : TE) (vs : List Nat) : TE := fun σ H Q => ∀ D, H D = none → ∃ W : Nat → Nat → Hp → Prop, (∃ m, W 0 m (upd H D (.lst []))) ∧ ∀ i m H, W i m H →
  ((Itr lo n).stop i H ∧ Q (.ref D) H) ∨ ((Itr lo n).go i H ∧ ∃ Nx : Hp → Prop, (∀ H', Nx H' → ∃ m', m' < m ∧ W (i + 1) m' H') ∧ ∀ x H', (Itr lo n).yld i H x H' → gName j x (wipe σ vs) H' fun σ2 H2 => wipe σ2 vs = wipe σ vs ∧ tt σ2 H2 fun b H3 =>
    if b = true then te σ2 H3 fun y H4 => ∃ acc, H4 D = some (.lst acc) ∧ acc.length < sizeLine ∧ Nx (upd H4 D (.lst (acc ++ [y]))) else Nx H3)
theorem r_lc1 {tr : TA} {j : Nat} {vs : List Nat} (h : tr σ H fun ws H1 => ∃ n : Int, ws = [.int n] ∧ -(2 ^ 62) ≤ n ∧ n < 2 ^ 62 ∧ LcR 0 n.toNat j tt te vs σ H1 Q) : tLc (iRng1 tr) (gName j) tt te vs σ H Q := h
theorem r_lc2 {tr : TA} {j : Nat} {vs : List Nat} (h : tr σ H fun ws H1 => ∃ m n : Int, ws = [.int m, .int n] ∧ (-(2 ^ 62) ≤ m ∧ m < 2 ^ 62 ∧ -(2 ^ 62) ≤ n ∧ n < 2 ^ 62) ∧ LcR m (n - m).toNat j tt te vs σ H1 Q) : tLc (iRng2 tr) (gName j) tt te vs σ H Q := h
theorem r_lcL {j : Nat} {vs : List Nat} (h : ta σ H fun x H1 => ∃ a, x = .ref a ∧ (∃ xs, SqL K H1 a xs) ∧ LcL K a j tt te vs σ H1 Q) : tLc (iList K ta) (gName j) tt te vs σ H Q := h
theorem r_yes {N : Bool → Hp → Prop} (h : N true H) : tYes σ H N := h
theorem r_LcL {a : Addr} {xs : List V} {j : Nat} {vs : List Nat} (hx : SqL K H a xs) (acc : Nat → List V) (h0 : acc 0 = []) (hz : ∀ i, i ≤ xs.length → (acc i).length ≤ 100000) (hw : ∀ x, wipe ((wipe σ vs).set j (some x)) vs = wipe σ vs)
    (hs : ∀ i x H' (N : VK) (Z : Hp → Prop), xs[i]? = some x → Same H H' → (∀ y H4, Same H' H4 → acc (i + 1) = acc i ++ [y] → N y H4) → (∀ H3, Same H' H3 → acc (i + 1) = acc i → Z H3) →
      tt ((wipe σ vs).set j (some x)) H' fun b H3 => if b = true then te ((wipe σ vs).set j (some x)) H3 N else Z H3)
    (hd : ∀ p H', H p = none → Same H H' → H' p = some (.lst (acc xs.length)) → Q (.ref p) H') : LcL K a j tt te vs σ H Q := by
  intro p np
  refine lc_list (g := gName j) (xs := xs) (fun i H' => i ≤ xs.length ∧ Same H H' ∧ H' p = some (.lst (acc i))) ⟨Nat.zero_le _, same_new np _, by rw [h0]; exact upd_same⟩ (fun i H' _ q => q.2.1.seq hx) (fun i x H' hi q => ?_) (fun H' q => hd p H' np q.2.1 q.2.2)
  obtain ⟨_, s, e⟩ := q
  have hil : i < xs.length := (List.getElem?_eq_some_iff.mp hi).1
  refine ⟨hw x, hs i x H' _ _ hi s (fun y H4 s4 e4 => ?_) fun H3 s3 e3 => ?_⟩
  · refine ⟨acc i, s4 _ _ e, Nat.lt_of_le_of_lt (hz i (Nat.le_of_lt hil)) (by decide), hil, ?_, ?_⟩
    · exact same_mut (s.trans s4) np
    · rw [e4]
      exact upd_same
  · exact ⟨hil, s.trans s3, by rw [e3]; exact s3 _ _ e⟩
theorem r_LcR {lo : Int} {n : Nat} {j : Nat} {vs : List Nat} (acc : Nat → List V) (h0 : acc 0 = []) (hz : ∀ i, i ≤ n → (acc i).length ≤ 100000) (hw : ∀ x, wipe ((wipe σ vs).set j (some x)) vs = wipe σ vs)
    (hs : ∀ i H' (N : VK) (Z : Hp → Prop), i < n → Same H H' → (∀ y H4, Same H' H4 → acc (i + 1) = acc i ++ [y] → N y H4) → (∀ H3, Same H' H3 → acc (i + 1) = acc i → Z H3) →
      tt ((wipe σ vs).set j (some (.int (lo + (i : Int))))) H' fun b H3 => if b = true then te ((wipe σ vs).set j (some (.int (lo + (i : Int))))) H3 N else Z H3)
    (hd : ∀ p H', H p = none → Same H H' → H' p = some (.lst (acc n)) → Q (.ref p) H') : LcR lo n j tt te vs σ H Q := by
  intro p np
  refine lc_range (g := gName j) (fun i H' => i ≤ n ∧ Same H H' ∧ H' p = some (.lst (acc i))) ⟨Nat.zero_le _, same_new np _, by rw [h0]; exact upd_same⟩ (fun i H' hi q => ?_) (fun H' q => hd p H' np q.2.1 q.2.2)
  obtain ⟨_, s, e⟩ := q
  refine ⟨hw _, hs i H' _ _ hi s (fun y H4 s4 e4 => ?_) fun H3 s3 e3 => ?_⟩
  · refine ⟨acc i, s4 _ _ e, Nat.lt_of_le_of_lt (hz i (Nat.le_of_lt hi)) (by decide), hi, ?_, ?_⟩
    · exact same_mut (s.trans s4) np
    · rw [e4]
      exact upd_same
  · exact ⟨hi, s.trans s3, by rw [e3]; exact s3 _ _ e⟩
theorem r_LcR0 {n : Nat} {j : Nat} {vs : List Nat} (acc : Nat → List V) (h0 : acc 0 = []) (hz : ∀ i, i ≤ n → (acc i).length ≤ 100000) (hw : ∀ x, wipe ((wipe σ vs).set j (some x)) vs = wipe σ vs)
    (hs : ∀ i H' (N : VK) (Z : Hp → Prop), i < n → Same H H' → (∀ y H4, Same H' H4 → acc (i + 1) = acc i ++ [y] → N y H4) → (∀ H3, Same H' H3 → acc (i + 1) = acc i → Z H3) →
      tt ((wipe σ vs).set j (some (.int (i : Int)))) H' fun b H3 => if b = true then te ((wipe σ vs).set j (some (.int (i : Int)))) H3 N else Z H3)
    (hd : ∀ p H', H p = none → Same H H' → H' p = some (.lst (acc n)) → Q (.ref p) H') : LcR 0 n j tt te vs σ H Q :=
  r_LcR acc h0 hz hw (fun i H' N Z hi s hN hZ => by
    have e : (0 : Int) + (i : Int) = (i : Int) := Int.zero_add _
    rw [e]
    exact hs i H' N Z hi s hN hZ) hd
/-- maps and filters, by how far one is -/
def mapAcc (f : V → V) (xs : List V) (i : Nat) : List V := (xs.take i).map f
theorem take_more {α : Type} : ∀ {l : List α} {i : Nat} {x : α}, l[i]? = some x → l.take (i + 1) = l.take i ++ [x]
  | [], i, x, h => by simp at h
  | a :: l, 0, x, h => by
    have e : a = x := Option.some.inj h
    subst e
    rfl
  | a :: l, i + 1, x, h => by
    have ih := take_more (l := l) (i := i) (x := x) h
    show a :: l.take (i + 1) = a :: l.take i ++ [x]
    rw [ih]
    rfl
end
theorem getD_at' {ns : List Int} {k : Nat} (h : k < ns.length) : ns[k]? = some (ns.getD k 0) := by
  rw [List.getD_eq_getElem?_getD, List.getElem?_eq_getElem h]
  rfl
theorem ix_nat {n : Nat} {i : Int} (h0 : 0 ≤ i) (h1 : i < (n : Int)) : ixN n i = some i.toNat := by
  unfold ixN
  rw [if_pos h0, if_pos h1]
theorem map_set (ns : List Int) (j : Nat) (z : Int) : (ns.map V.int).set j (.int z) = (ns.set j z).map V.int := by
  rw [List.map_set]
theorem r_setL {o : Addr} {i z : Int} {ns : List Int} {H : Hp} {Q : Hp → Prop} (h : H o = some (.lst (ns.map V.int))) (h0 : 0 ≤ i) (h1 : i < (ns.length : Int)) (q : Q (upd H o (.lst ((ns.set i.toNat z).map V.int)))) : rSetL (.ref o) (.int i) (.int z) H Q := by
  refine ⟨o, ns.map V.int, i, i.toNat, rfl, rfl, h, ?_, ?_⟩
  · rw [List.length_map]
    exact ix_nat h0 h1
  · rw [map_set]
    exact q
theorem rep_flat {n : Int} {x : V} : (List.replicate n.toNat [x]).flatten = List.replicate n.toNat x := by
  generalize n.toNat = k
  induction k with
  | zero => rfl
  | succ k ih =>
    rw [List.replicate_succ, List.flatten_cons, ih, List.replicate_succ]
    rfl
theorem r_rep {l : Addr} {k : Int} {x : V} {H : Hp} {Q : VK} (h : H l = some (.lst [x])) (h0 : -1000000 ≤ k) (h1 : k ≤ 1000000) (q : ∀ p, H p = none → Q (.ref p) (upd H p (.lst (List.replicate k.toNat x)))) : rRep (.ref l) (.int k) H Q := by
  refine ⟨l, k, [x], rfl, rfl, h, by omega, by omega, sz (by rw [List.length_singleton]; omega), fun p np => ?_⟩
  rw [rep_flat]
  exact q p np
theorem r_setV {o : Addr} {i : Int} {z : V} {xs : List V} {H : Hp} {Q : Hp → Prop} (h : H o = some (.lst xs)) (h0 : 0 ≤ i) (h1 : i < (xs.length : Int)) (q : Q (upd H o (.lst (xs.set i.toNat z)))) : rSetL (.ref o) (.int i) z H Q :=
  ⟨o, xs, i, i.toNat, rfl, rfl, h, by unfold ixN; rw [if_pos h0, if_pos h1], q⟩
theorem natmap_len (pl : List Nat) : (pl.map fun (n : Nat) => V.int (n : Int)).length = pl.length := List.length_map _
theorem pile_last {K : PySem.W.Frag} {pl : List Nat} {t : Nat} {H : Hp} {a : Addr} {Q : VK} (h : H a = some (.lst ((pl ++ [t]).map fun (n : Nat) => V.int (n : Int)))) (q : Q (.int (t : Int)) H) : rIxL K (.ref a) (.int (-1)) H Q := by
  refine r_ixL (VT.SqL.lst h) ?_ q
  rw [List.map_append]
  exact atI_last _ _
theorem r_popN {pl : List Nat} {t : Nat} {H : Hp} {a : Addr} {Q : VK} (h : H a = some (.lst ((pl ++ [t]).map fun (n : Nat) => V.int (n : Int)))) (q : Q (.int (t : Int)) (upd H a (.lst (pl.map fun (n : Nat) => V.int (n : Int))))) : rPop (.ref a) [] H Q := by
  refine ⟨a, _, .int (t : Int), rfl, rfl, h, ?_, ?_⟩
  · rw [List.map_append, List.length_append, List.length_map, List.length_map, List.length_singleton, Nat.add_sub_cancel, List.getElem?_append_right (by rw [List.length_map]; exact Nat.le_refl _), List.length_map, Nat.sub_self] <;> rfl
  · rw [List.map_append]
    show Q (.int (t : Int)) (upd H a (.lst ((pl.map fun (n : Nat) => V.int (n : Int)) ++ [V.int (t : Int)]).dropLast))
    rw [List.dropLast_concat]
    exact q
theorem pile_push (pl : List Nat) (k : Nat) : (pl.map fun (n : Nat) => V.int (n : Int)) ++ [V.int (k : Int)] = (pl ++ [k]).map fun (n : Nat) => V.int (n : Int) := by
  rw [List.map_append] <;> rfl
theorem concat_of {α : Type} {l : List α} (h : l ≠ []) : ∃ r t, l = r ++ [t] := ⟨l.dropLast, l.getLast h, (List.dropLast_concat_getLast h).symm⟩
theorem r_popV {l : Addr} {xs : List V} {y : V} {H : Hp} {Q : VK} (h : H l = some (.lst (xs ++ [y]))) (q : Q y (upd H l (.lst xs))) : rPop (.ref l) [] H Q := by
  refine ⟨l, xs ++ [y], y, rfl, rfl, h, ?_, ?_⟩
  · rw [List.length_append, List.length_singleton, Nat.add_sub_cancel, List.getElem?_append_right (Nat.le_refl _), Nat.sub_self] <;> rfl
  · rw [List.dropLast_concat]
    exact q
theorem r_tup3 {K : PySem.W.Frag} {σ : L2.St} {H : Hp} {a : Addr} {i j k : Nat} {x y z : V} {N : L2.St → Hp → Prop} (h : SqT K H a [x, y, z]) (q : N (((σ.set i (some x)).set j (some y)).set k (some z)) H) : gTup K 3 (gCons (gName i) (gCons (gName j) (gCons (gName k) gNil))) (.ref a) σ H N :=
  ⟨a, [x, y, z], rfl, h, rfl, x, [y, z], rfl, y, [z], rfl, z, [], rfl, rfl, q⟩
theorem r_tup2 {K : PySem.W.Frag} {σ : L2.St} {H : Hp} {a : Addr} {i j : Nat} {x y : V} {N : L2.St → Hp → Prop} (h : SqT K H a [x, y]) (q : N ((σ.set i (some x)).set j (some y)) H) : gTup K 2 (gCons (gName i) (gCons (gName j) gNil)) (.ref a) σ H N :=
  ⟨a, [x, y], rfl, h, rfl, x, [y], rfl, y, [], rfl, rfl, q⟩
theorem r_in {K : PySem.W.Frag} {p : Addr} {x : V} {xs : List V} {H : Hp} {Q : VK} (h : SqL K H p xs) (f1 : flatV x = true) (f2 : xs.all flatV = true) (q : Q (.bl (inV x xs)) H) : rIn K false x (.ref p) H Q := ⟨p, xs, rfl, .inl h, f1, f2, q⟩
theorem inV_nat {ys : List Nat} {x : Nat} : inV (.int (x : Int)) (ys.map fun (n : Nat) => V.int (n : Int)) = decide (x ∈ ys) := by
  unfold inV
  induction ys with
  | nil => rfl
  | cons y ys ih =>
    rw [List.map_cons, List.any_cons, ih]
    show (((y : Int) == (x : Int)) || decide (x ∈ ys)) = decide (x ∈ y :: ys)
    by_cases e : y = x
    · subst e
      simp
    · have e1 : ((y : Int) == (x : Int)) = false := beq_eq_false_iff_ne.mpr (by omega)
      have e2 : x ≠ y := fun z => e z.symm
      rw [e1]
      simp [e2]
theorem inV_int {ys : List Int} {x : Int} : inV (.int x) (ys.map V.int) = decide (x ∈ ys) := by
  unfold inV
  induction ys with
  | nil => rfl
  | cons y ys ih =>
    rw [List.map_cons, List.any_cons, ih]
    show ((y == x) || decide (x ∈ ys)) = decide (x ∈ y :: ys)
    by_cases e : y = x
    · subst e
      simp
    · have e2 : x ≠ y := fun z => e z.symm
      rw [beq_eq_false_iff_ne.mpr e]
      simp [e2]
theorem flat_int {ys : List Int} : (ys.map V.int).all flatV = true := by
  rw [List.all_map]
  exact List.all_eq_true.mpr fun _ _ => rfl
theorem r_sortedI {a : Addr} {ns : List Int} {K : PySem.W.Frag} {H : Hp} {Q : VK} (h : SqL K H a (ns.map V.int)) (q : ∀ (ns' : List Int) (p : Addr), ns'.Perm ns → ns'.Pairwise (· ≤ ·) → H p = none → Q (.ref p) (upd H p (.lst (ns'.map V.int)))) : rSortedI K [.ref a] H Q := ⟨a, ns, rfl, h, q⟩
theorem r_lstRg {σ : L2.St} {H : Hp} {Q : VK} {te : L2.St → Hp → (Int → Int → Hp → Prop) → Prop} (h : te σ H fun a b H1 => RgOk a b ∧ ∀ q, H1 q = none → Q (.ref q) (upd H1 q (.lst (rgV a b)))) : tLstRg te σ H Q := h
theorem flat_nat {ys : List Nat} : (ys.map fun (n : Nat) => V.int (n : Int)).all flatV = true := by
  rw [List.all_map]
  exact List.all_eq_true.mpr fun _ _ => rfl
theorem SqL.keep {K : PySem.W.Frag} {H H' : Hp} {a : Addr} {xs : List V} (h : SqL K H a xs) (e : ∀ o, H a = some o → H' a = some o) : SqL K H' a xs := by
  rcases h with (h | ⟨o, h⟩) | h
  · exact .inl (.inl (e _ h))
  · exact .inl (.inr ⟨o, e _ h⟩)
  · exact .inr h
def lcScope : Stmt → Scope
  | .Assign _ (.ListComp _ _ sc _) _ => sc
  | _ => default
theorem ifE_join {σ : L2.St} {H : Hp} {Q : VK} {p : Prop} [Decidable p] {ta tb : TE} (M : V → Hp → Prop) (k : ∀ v H', M v H' → Q v H') (hA : p → (∀ v H', M v H' → Q v H') → ta σ H Q) (hB : ¬ p → (∀ v H', M v H' → Q v H') → tb σ H Q) : if decide p = true then ta σ H Q else tb σ H Q :=
  brD (fun c => hA c k) (fun c => hB c k)
theorem But.same' {D : Addr} {H H' : Hp} {o : HO} (e : Same H H') : But D H (upd H' D o) := (But.of e).up
/-- a comprehension whose items stand in the heap -/
theorem r_LcLP {K : PySem.W.Frag} {σ : L2.St} {H : Hp} {Q : VK} {tt : TT} {te : TE} {a : Addr} {xs : List V} {j : Nat} {vs : List Nat} (hx : SqL K H a xs) (P : Addr → Nat → List V → Hp → Prop) (h0 : ∀ D H1, H D = none → P D 0 [] H1)
    (mono : ∀ D i acc H1 H2, But D H1 H2 → P D i acc H1 → P D i acc H2) (hz : ∀ D i acc H1, i ≤ xs.length → P D i acc H1 → acc.length ≤ 100000) (hw : ∀ x, wipe ((wipe σ vs).set j (some x)) vs = wipe σ vs)
    (hs : ∀ D i x H' acc (N : VK) (Z : Hp → Prop), H D = none → xs[i]? = some x → Same H H' → H' D = some (.lst acc) → P D i acc H' → (∀ y H4, Same H' H4 → P D (i + 1) (acc ++ [y]) H4 → N y H4) → (∀ H3, Same H' H3 → P D (i + 1) acc H3 → Z H3) →
      tt ((wipe σ vs).set j (some x)) H' fun b H3 => if b = true then te ((wipe σ vs).set j (some x)) H3 N else Z H3)
    (hd : ∀ D H' acc, H D = none → Same H H' → H' D = some (.lst acc) → P D xs.length acc H' → Q (.ref D) H') : LcL K a j tt te vs σ H Q := by
  intro p np
  refine lc_list (g := gName j) (xs := xs) (fun i H' => i ≤ xs.length ∧ Same H H' ∧ ∃ acc, H' p = some (.lst acc) ∧ P p i acc H') ⟨Nat.zero_le _, same_new np _, [], upd_same, h0 _ _ np⟩ (fun i H' _ q => q.2.1.seq hx) (fun i x H' hi q => ?_) (fun H' q => ?_)
  · obtain ⟨_, s, acc, e, hP⟩ := q
    have hil : i < xs.length := (List.getElem?_eq_some_iff.mp hi).1
    refine ⟨hw x, hs p i x H' acc _ _ np hi s e hP (fun y H4 s4 p4 => ?_) fun H3 s3 p3 => ?_⟩
    · refine ⟨acc, s4 _ _ e, Nat.lt_of_le_of_lt (hz _ _ _ _ (Nat.le_of_lt hil) hP) (by decide), hil, same_mut (s.trans s4) np, _, upd_same, ?_⟩
      exact mono p (i + 1) _ H4 _ ((But.of (Same.refl _)).up) p4
    · exact ⟨hil, s.trans s3, acc, s3 _ _ e, p3⟩
  · obtain ⟨_, s, acc, e, hP⟩ := q
    exact hd p H' acc np s e hP
theorem fnOk_no {P : Program} {w : World} {K : PySem.W.Frag} {mg : Str → Option Value} {base : Heap} {CX : CXT} {k : Nat} {f : Addr} {fd : FuncData} {ps : List Str} {sp : Sp} (h : ∀ vs H Q E, ¬ sp vs H Q E) : FnOk P w K mg base CX k f fd ps sp :=
  ⟨fun vs H Q E z => absurd z (h vs H Q E), fun A outer s H args us vs Q E _ _ _ _ z => absurd z (h vs H Q E)⟩
end VT
/-! ### the least of a stretch -/
namespace VT
/-- of the places from i to j the first with the least number is at, the number m -/
structure IsLeast (ns : List Int) (i j : Nat) (m : Int) (at' : Nat) : Prop where
  lo : i ≤ at'
  hi : at' < j
  val : ns[at']? = some m
  le : ∀ k x, i ≤ k → k < j → ns[k]? = some x → m ≤ x
  fst : ∀ k x, i ≤ k → k < at' → ns[k]? = some x → m < x
theorem IsLeast.uniq {ns : List Int} {i j : Nat} {m m' : Int} {a a' : Nat} (h : IsLeast ns i j m a) (h' : IsLeast ns i j m' a') : m = m' ∧ a = a' := by
  have e : m = m' := by
    have h1 := h.le a' m' h'.lo h'.hi h'.val
    have h2 := h'.le a m h.lo h.hi h.val
    omega
  refine ⟨e, ?_⟩
  subst e
  rcases Nat.lt_trichotomy a a' with c | c | c
  · have := h'.fst a m h.lo c h.val
    omega
  · exact c
  · have := h.fst a' m h'.lo c h'.val
    omega
theorem first_at {ns : List Int} {i : Nat} {m : Int} : ∀ (k : Nat), i ≤ k → ns[k]? = some m → ∃ j, i ≤ j ∧ j ≤ k ∧ ns[j]? = some m ∧ ∀ l, i ≤ l → l < j → ns[l]? ≠ some m := by
  intro k
  induction k using Nat.strongRecOn with
  | _ k ih =>
    intro h1 h2
    by_cases h : ∃ l, i ≤ l ∧ l < k ∧ ns[l]? = some m
    · obtain ⟨l, a, b, c⟩ := h
      obtain ⟨j, j1, j2, j3, j4⟩ := ih l b a c
      exact ⟨j, j1, by omega, j3, j4⟩
    · exact ⟨k, h1, Nat.le_refl _, h2, fun l a b c => h ⟨l, a, b, c⟩⟩
theorem slice_get {ns : List Int} {i j : Nat} {k : Nat} : ((ns.drop i).take (j - i))[k]? = if k < j - i then ns[i + k]? else none := by
  rw [List.getElem?_take]
  split
  · rw [List.getElem?_drop]
  · rfl
theorem mem_slice {ns : List Int} {i j : Nat} {m : Int} (h : m ∈ (ns.drop i).take (j - i)) : ∃ k, i ≤ k ∧ k < j ∧ ns[k]? = some m := by
  obtain ⟨k, hk⟩ := List.mem_iff_getElem?.mp h
  rw [slice_get] at hk
  split at hk
  · exact ⟨i + k, by omega, by omega, hk⟩
  · cases hk
theorem in_slice {ns : List Int} {i j k : Nat} {x : Int} (h1 : i ≤ k) (h2 : k < j) (h : ns[k]? = some x) : x ∈ (ns.drop i).take (j - i) := by
  refine List.mem_iff_getElem?.mpr ⟨k - i, ?_⟩
  rw [slice_get, if_pos (by omega)]
  have e : i + (k - i) = k := by omega
  rw [e]
  exact h
/-- from the least of the slice's numbers to the place -/
theorem least_of_min {ns : List Int} {i j : Nat} {m : Int} (hm : m ∈ (ns.drop i).take (j - i)) (hle : ∀ x, x ∈ (ns.drop i).take (j - i) → m ≤ x) : ∃ at', IsLeast ns i j m at' ∧ ∀ l, i ≤ l → l < at' → ns[l]? ≠ some m := by
  obtain ⟨k, k1, k2, k3⟩ := mem_slice hm
  obtain ⟨a, a1, a2, a3, a4⟩ := first_at k k1 k3
  refine ⟨a, ⟨a1, by omega, a3, fun k' x h1 h2 h3 => hle x (in_slice h1 h2 h3), fun k' x h1 h2 h3 => ?_⟩, a4⟩
  have h4 := hle x (in_slice h1 (by omega) h3)
  have h5 : x ≠ m := fun e => a4 k' h1 h2 (by rw [h3, e])
  omega
theorem IsLeast.one {ns : List Int} {i : Nat} {m : Int} (h : ns[i]? = some m) : IsLeast ns i (i + 1) m i :=
  ⟨Nat.le_refl _, Nat.lt_succ_self _, h, fun k x h1 h2 h3 => by
    have e : k = i := by omega
    rw [e, h] at h3
    exact Int.le_of_eq (Option.some.inj h3), fun k x h1 h2 _ => by omega⟩
theorem IsLeast.less {ns : List Int} {i j : Nat} {m x : Int} {a : Nat} (h : IsLeast ns i j m a) (hx : ns[j]? = some x) (hl : x < m) : IsLeast ns i (j + 1) x j :=
  ⟨by have := h.lo; have := h.hi; omega, Nat.lt_succ_self _, hx, fun k y h1 h2 h3 => by
    by_cases e : k = j
    · rw [e, hx] at h3
      exact Int.le_of_eq (Option.some.inj h3)
    · have := h.le k y h1 (by omega) h3
      omega, fun k y h1 h2 h3 => by
    have := h.le k y h1 h2 h3
    omega⟩
theorem IsLeast.more {ns : List Int} {i j : Nat} {m x : Int} {a : Nat} (h : IsLeast ns i j m a) (hx : ns[j]? = some x) (hl : ¬ x < m) : IsLeast ns i (j + 1) m a :=
  ⟨h.lo, by have := h.hi; omega, h.val, fun k y h1 h2 h3 => by
    by_cases e : k = j
    · rw [e, hx] at h3
      have := Option.some.inj h3
      omega
    · exact h.le k y h1 (by omega) h3, h.fst⟩
end VT
/-! ### trees over places -/
namespace VT
open L2
inductive BT where
  | nil : BT
  | node (l r : BT) : BT
def BT.size : BT → Nat
  | .nil => 0
  | .node l r => l.size + 1 + r.size
def oV : Option Nat → V
  | none => .non
  | some n => .int (n : Int)
/-- what stands over each place, from f on, under top -/
def BT.code : BT → Nat → Option Nat → List (Option Nat)
  | .nil, _, _ => []
  | .node l r, f, top => l.code f (some (f + l.size)) ++ top :: r.code (f + l.size + 1) (some (f + l.size))
def BT.codeV (t : BT) (f : Nat) (top : Option Nat) : List V := (t.code f top).map oV
def BT.deep : BT → Nat → List Nat
  | .nil, _ => []
  | .node l r, d => l.deep (d + 1) ++ d :: r.deep (d + 1)
def BT.deepI (t : BT) : List Int := (t.deep 0).map fun (n : Nat) => (n : Int)
theorem BT.code_len : ∀ (t : BT) (f : Nat) (top : Option Nat), (t.code f top).length = t.size
  | .nil, _, _ => rfl
  | .node l r, f, top => by
    show (l.code f (some (f + l.size)) ++ top :: r.code (f + l.size + 1) (some (f + l.size))).length = l.size + 1 + r.size
    rw [List.length_append, List.length_cons, BT.code_len l, BT.code_len r]
    omega
theorem BT.codeV_len (t : BT) (f : Nat) (top : Option Nat) : (t.codeV f top).length = t.size := by
  unfold BT.codeV
  rw [List.length_map, BT.code_len]
theorem BT.deep_len : ∀ (t : BT) (d : Nat), (t.deep d).length = t.size
  | .nil, _ => rfl
  | .node l r, d => by
    show (l.deep (d + 1) ++ d :: r.deep (d + 1)).length = l.size + 1 + r.size
    rw [List.length_append, List.length_cons, BT.deep_len l, BT.deep_len r]
    omega
theorem oV_ok : ∀ x : Option Nat, okV (oV x) = true
  | none => rfl
  | some _ => rfl
theorem BT.codeV_ok (t : BT) (f : Nat) (top : Option Nat) : (t.codeV f top).all okV = true := by
  unfold BT.codeV
  rw [List.all_map]
  exact List.all_eq_true.mpr fun x _ => oV_ok x
theorem oV_inj : ∀ {x y : Option Nat}, oV x = oV y → x = y
  | none, none, _ => rfl
  | none, some _, h => by cases h
  | some _, none, h => by cases h
  | some a, some b, h => by
    have : (a : Int) = (b : Int) := V.int.inj h
    rw [show a = b by omega]
theorem map_oV_inj : ∀ {xs ys : List (Option Nat)}, xs.map oV = ys.map oV → xs = ys
  | [], [], _ => rfl
  | [], _ :: _, h => by cases h
  | _ :: _, [], h => by cases h
  | x :: xs, y :: ys, h => by
    rw [List.map_cons, List.map_cons] at h
    injection h with h1 h2
    rw [oV_inj h1, map_oV_inj h2]
/-- c written over xs from f on -/
def splice {α : Type} (xs : List α) (f : Nat) (c : List α) : List α := xs.take f ++ c ++ xs.drop (f + c.length)
theorem splice_get {α : Type} {xs : List α} {f : Nat} {c : List α} (h : f + c.length ≤ xs.length) (p : Nat) : (splice xs f c)[p]? = if p < f then xs[p]? else if p < f + c.length then c[p - f]? else xs[p]? := by
  unfold splice
  rw [List.append_assoc]
  by_cases h1 : p < f
  · rw [if_pos h1, List.getElem?_append_left (by rw [List.length_take]; omega), List.getElem?_take, if_pos h1]
  · rw [if_neg h1, List.getElem?_append_right (by rw [List.length_take]; omega), List.length_take, Nat.min_eq_left (by omega)]
    by_cases h2 : p < f + c.length
    · rw [if_pos h2, List.getElem?_append_left (by omega)]
    · rw [if_neg h2, List.getElem?_append_right (by omega), List.getElem?_drop]
      congr 1
      omega
theorem splice_len {α : Type} {xs : List α} {f : Nat} {c : List α} (h : f + c.length ≤ xs.length) : (splice xs f c).length = xs.length := by
  unfold splice
  rw [List.length_append, List.length_append, List.length_take, List.length_drop]
  omega
theorem splice_nil {α : Type} (xs : List α) (f : Nat) : splice xs f [] = xs := by
  unfold splice
  rw [List.append_nil]
  exact List.take_append_drop f xs
theorem splice_all {α : Type} {xs c : List α} (h : c.length = xs.length) : splice xs 0 c = c := by
  unfold splice
  rw [List.take_zero, List.nil_append, Nat.zero_add, h, List.drop_length, List.append_nil]
theorem node_get {α : Type} (c1 c2 : List α) (v : α) (i : Nat) : (c1 ++ v :: c2)[i]? = if i < c1.length then c1[i]? else if i = c1.length then some v else c2[i - c1.length - 1]? := by
  by_cases h1 : i < c1.length
  · rw [if_pos h1, List.getElem?_append_left h1]
  · rw [if_neg h1, List.getElem?_append_right (by omega)]
    by_cases h2 : i = c1.length
    · rw [if_pos h2, h2, Nat.sub_self] <;> rfl
    · rw [if_neg h2, show i - c1.length = i - c1.length - 1 + 1 by omega] <;> rfl
/-- the head, then ahead of it, then behind it -/
theorem splice_node {α : Type} {xs c1 c2 : List α} {f : Nat} {v : α} (h : f + c1.length + 1 + c2.length ≤ xs.length) : splice (splice (xs.set (f + c1.length) v) f c1) (f + c1.length + 1) c2 = splice xs f (c1 ++ v :: c2) := by
  have hl : (c1 ++ v :: c2).length = c1.length + 1 + c2.length := by
    rw [List.length_append, List.length_cons]
    omega
  apply List.ext_getElem?
  intro p
  rw [splice_get (by rw [splice_len (by rw [List.length_set]; omega), List.length_set]; omega), splice_get (by rw [List.length_set]; omega), splice_get (by rw [hl]; omega), List.getElem?_set, hl, node_get]
  by_cases h1 : p < f
  · rw [if_pos (by omega), if_pos h1, if_neg (by omega), if_pos h1]
  · rw [if_neg h1, if_neg h1]
    by_cases h2 : p < f + c1.length
    · rw [if_pos (by omega), if_pos h2, if_pos (by omega), if_pos (by omega)]
    · by_cases h3 : p = f + c1.length
      · rw [if_pos (by omega), if_neg h2, if_pos h3.symm, if_pos (by omega), if_pos (by omega), if_neg (by omega), if_pos (by omega)]
      · rw [if_neg (by omega)]
        by_cases h4 : p < f + c1.length + 1 + c2.length
        · rw [if_pos h4, if_pos (by omega), if_neg (by omega), if_neg (by omega)]
          congr 1
          omega
        · rw [if_neg h4, if_neg h2, if_neg (by omega), if_neg (by omega)]
theorem splice_node' {α : Type} {xs c1 c2 : List α} {f : Nat} {v : α} (h : f + c1.length + 1 + c2.length ≤ xs.length) : splice (splice (xs.set (f + c1.length) v) (f + c1.length + 1) c2) f c1 = splice xs f (c1 ++ v :: c2) := by
  have hl : (c1 ++ v :: c2).length = c1.length + 1 + c2.length := by
    rw [List.length_append, List.length_cons]
    omega
  apply List.ext_getElem?
  intro p
  rw [splice_get (by rw [splice_len (by rw [List.length_set]; omega), List.length_set]; omega), splice_get (by rw [List.length_set]; omega), splice_get (by rw [hl]; omega), List.getElem?_set, hl, node_get]
  by_cases h1 : p < f
  · rw [if_pos h1, if_pos (by omega), if_neg (by omega), if_pos h1]
  · rw [if_neg h1, if_neg h1]
    by_cases h2 : p < f + c1.length
    · rw [if_pos h2, if_pos (by omega), if_pos (by omega)]
    · rw [if_neg h2]
      by_cases h3 : p = f + c1.length
      · rw [if_pos (by omega), if_pos h3.symm, if_pos (by omega), if_pos (by omega), if_neg (by omega), if_pos (by omega)]
      · rw [if_neg (by omega)]
        by_cases h4 : p < f + c1.length + 1 + c2.length
        · rw [if_pos h4, if_pos (by omega), if_neg (by omega), if_neg (by omega)]
          congr 1
          omega
        · rw [if_neg h4, if_neg (by omega), if_neg (by omega)]
theorem BT.codeV_node (l r : BT) (f : Nat) (top : Option Nat) : (BT.node l r).codeV f top = l.codeV f (some (f + l.size)) ++ oV top :: r.codeV (f + l.size + 1) (some (f + l.size)) := by
  unfold BT.codeV
  show (l.code f (some (f + l.size)) ++ top :: r.code (f + l.size + 1) (some (f + l.size))).map oV = _
  rw [List.map_append, List.map_cons]
theorem splice_tree {xs : List V} {f : Nat} {l r : BT} {top : Option Nat} (h : f + (BT.node l r).size ≤ xs.length) : splice (splice (xs.set (f + l.size) (oV top)) f (l.codeV f (some (f + l.size)))) (f + l.size + 1) (r.codeV (f + l.size + 1) (some (f + l.size))) = splice xs f ((BT.node l r).codeV f top) := by
  have h' : f + (l.size + 1 + r.size) ≤ xs.length := h
  have e := splice_node (xs := xs) (c1 := l.codeV f (some (f + l.size))) (c2 := r.codeV (f + l.size + 1) (some (f + l.size))) (f := f) (v := oV top) (by rw [BT.codeV_len, BT.codeV_len]; omega)
  rw [BT.codeV_len] at e
  rw [BT.codeV_node]
  exact e
theorem splice_tree' {xs : List V} {f : Nat} {l r : BT} {top : Option Nat} (h : f + (BT.node l r).size ≤ xs.length) : splice (splice (xs.set (f + l.size) (oV top)) (f + l.size + 1) (r.codeV (f + l.size + 1) (some (f + l.size)))) f (l.codeV f (some (f + l.size))) = splice xs f ((BT.node l r).codeV f top) := by
  have h' : f + (l.size + 1 + r.size) ≤ xs.length := h
  have e := splice_node' (xs := xs) (c1 := l.codeV f (some (f + l.size))) (c2 := r.codeV (f + l.size + 1) (some (f + l.size))) (f := f) (v := oV top) (by rw [BT.codeV_len, BT.codeV_len]; omega)
  rw [BT.codeV_len] at e
  rw [BT.codeV_node]
  exact e
/-- the tree of lesser numbers -/
inductive IsCart (ns : List Int) : Nat → Nat → BT → Prop where
  | nil (f : Nat) : IsCart ns f f .nil
  | node {f b h : Nat} {m : Int} {l r : BT} (hm : IsLeast ns f b m h) (hl : IsCart ns f h l) (hr : IsCart ns (h + 1) b r) : IsCart ns f b (.node l r)
theorem IsCart.size {ns : List Int} {f b : Nat} {t : BT} (h : IsCart ns f b t) : f + t.size = b := by
  induction h with
  | nil f => rfl
  | node hm hl hr il ir =>
    show _ + (_ + 1 + _) = _
    omega
theorem IsCart.uniq {ns : List Int} {f b : Nat} {t : BT} (h : IsCart ns f b t) : ∀ {u : BT}, IsCart ns f b u → t = u := by
  induction h with
  | nil f =>
    intro u hu
    cases hu with
    | nil => rfl
    | node hm _ _ =>
      have := hm.lo
      have := hm.hi
      omega
  | node hm hl hr il ir =>
    intro u hu
    cases hu with
    | nil =>
      have := hm.lo
      have := hm.hi
      omega
    | node hm' hl' hr' =>
      obtain ⟨_, e⟩ := hm.uniq hm'
      subst e
      rw [il hl', ir hr']
theorem IsLeast.ex {ns : List Int} {i : Nat} : ∀ {d : Nat}, i + d < ns.length → ∃ m a, IsLeast ns i (i + (d + 1)) m a
  | 0, h => ⟨_, _, IsLeast.one (getD_at' h)⟩
  | d + 1, h => by
    obtain ⟨m, a, hL⟩ := IsLeast.ex (ns := ns) (i := i) (d := d) (by omega)
    have hv := getD_at' (ns := ns) (k := i + (d + 1)) h
    by_cases c : ns.getD (i + (d + 1)) 0 < m
    · exact ⟨_, _, hL.less hv c⟩
    · exact ⟨_, _, hL.more hv c⟩
theorem IsCart.ex {ns : List Int} : ∀ (n f b : Nat), b - f ≤ n → f ≤ b → b ≤ ns.length → ∃ t, IsCart ns f b t
  | 0, f, b, h1, h2, _ => by
    obtain rfl : f = b := by omega
    exact ⟨_, .nil f⟩
  | n + 1, f, b, h1, h2, h3 => by
    by_cases c : f = b
    · subst c
      exact ⟨_, .nil f⟩
    · obtain ⟨m, a, hL⟩ := IsLeast.ex (ns := ns) (i := f) (d := b - f - 1) (by omega)
      rw [show f + (b - f - 1 + 1) = b by omega] at hL
      have g1 := hL.lo
      have g2 := hL.hi
      obtain ⟨l, hl⟩ := IsCart.ex (ns := ns) n f a (by omega) g1 (by omega)
      obtain ⟨r, hr⟩ := IsCart.ex (ns := ns) n (a + 1) b (by omega) (by omega) h3
      exact ⟨_, .node hL hl hr⟩
theorem cart_ex (ns : List Int) : ∃ t, IsCart ns 0 ns.length t := IsCart.ex ns.length 0 ns.length (by omega) (Nat.zero_le _) (Nat.le_refl _)
/-- numbers in like order have like trees -/
theorem IsLeast.like {ns ms : List Int} {i j : Nat} {m : Int} {a : Nat} (h : IsLeast ns i j m a) (hlen : ns.length = ms.length) (hlt : ∀ (p q : Nat) (x y x' y' : Int), i ≤ p → p < j → i ≤ q → q < j → ns[p]? = some x → ns[q]? = some y → ms[p]? = some x' → ms[q]? = some y' → (x ≤ y → x' ≤ y') ∧ (x < y → x' < y')) : ∃ m', IsLeast ms i j m' a := by
  have hal : a < ns.length := (List.getElem?_eq_some_iff.mp h.val).1
  have hv : ms[a]? = some (ms.getD a 0) := getD_at' (by omega)
  have h1 := h.lo
  have h2 := h.hi
  refine ⟨ms.getD a 0, h1, h2, hv, fun k x k1 k2 hk => ?_, fun k x k1 k2 hk => ?_⟩
  · have hkl : k < ms.length := (List.getElem?_eq_some_iff.mp hk).1
    have hk' := getD_at' (ns := ns) (k := k) (by omega)
    exact (hlt a k _ _ _ _ h1 h2 k1 k2 h.val hk' hv hk).1 (h.le k _ k1 k2 hk')
  · have hkl : k < ms.length := (List.getElem?_eq_some_iff.mp hk).1
    have hk' := getD_at' (ns := ns) (k := k) (by omega)
    exact (hlt a k _ _ _ _ h1 h2 k1 (by omega) h.val hk' hv hk).2 (h.fst k _ k1 k2 hk')
theorem IsCart.like {ns ms : List Int} (hlen : ns.length = ms.length) (hlt : ∀ (p q : Nat) (x y x' y' : Int), ns[p]? = some x → ns[q]? = some y → ms[p]? = some x' → ms[q]? = some y' → (x ≤ y → x' ≤ y') ∧ (x < y → x' < y')) {f b : Nat} {t : BT} (h : IsCart ns f b t) : IsCart ms f b t := by
  induction h with
  | nil f => exact .nil f
  | node hm hl hr il ir =>
    obtain ⟨m', h'⟩ := hm.like hlen fun p q x y x' y' _ _ _ _ => hlt p q x y x' y'
    exact .node h' il ir
theorem IsCart.map {ns : List Int} {g : Int → Int} (hg : ∀ x y, (x ≤ y → g x ≤ g y) ∧ (x < y → g x < g y)) {f b : Nat} {t : BT} (h : IsCart ns f b t) : IsCart (ns.map g) f b t :=
  h.like (List.length_map _).symm fun p q x y x' y' h1 h2 h3 h4 => by
    rw [List.getElem?_map, h1] at h3
    rw [List.getElem?_map, h2] at h4
    rw [← Option.some.inj h3, ← Option.some.inj h4]
    exact hg x y
/-- the depths' tree is the tree -/
theorem BT.deep_ge : ∀ (t : BT) (d : Nat) (x : Nat), x ∈ t.deep d → d ≤ x ∧ x < d + t.size
  | .nil, _, _, h => by cases h
  | .node l r, d, x, h => by
    show d ≤ x ∧ x < d + (l.size + 1 + r.size)
    rcases List.mem_append.mp h with e | e
    · have := BT.deep_ge l (d + 1) x e
      omega
    · rcases List.mem_cons.mp e with e | e
      · omega
      · have := BT.deep_ge r (d + 1) x e
        omega
theorem BT.deep_cart : ∀ (t : BT) (d f : Nat) (ns : List Int), (∀ i, i < t.size → ns[f + i]? = ((t.deep d)[i]?).map fun (n : Nat) => (n : Int)) → IsCart ns f (f + t.size) t
  | .nil, _, f, _, _ => .nil f
  | .node l r, d, f, ns, h => by
    have hd : ∀ i, ((BT.node l r).deep d)[i]? = if i < l.size then (l.deep (d + 1))[i]? else if i = l.size then some d else (r.deep (d + 1))[i - l.size - 1]? := fun i => by
      show (l.deep (d + 1) ++ d :: r.deep (d + 1))[i]? = _
      rw [node_get, BT.deep_len]
    have hs : (BT.node l r).size = l.size + 1 + r.size := rfl
    have hl := BT.deep_cart l (d + 1) f ns fun i hi => by
      rw [h i (by omega), hd, if_pos hi]
    have hr := BT.deep_cart r (d + 1) (f + l.size + 1) ns fun i hi => by
      rw [show f + l.size + 1 + i = f + (l.size + 1 + i) by omega, h _ (by omega), hd, if_neg (by omega), if_neg (by omega), show l.size + 1 + i - l.size - 1 = i by omega]
    rw [show f + l.size + 1 + r.size = f + (BT.node l r).size by omega] at hr
    have val : ∀ k x, f ≤ k → k < f + (BT.node l r).size → k ≠ f + l.size → ns[k]? = some x → (d : Int) < x := fun k x k1 k2 k3 hk => by
      have e := h (k - f) (by omega)
      rw [show f + (k - f) = k by omega, hk, hd] at e
      by_cases c : k - f < l.size
      · rw [if_pos c] at e
        cases g : (l.deep (d + 1))[k - f]? with
        | none => rw [g] at e; cases e
        | some y =>
          rw [g] at e
          have := (BT.deep_ge l (d + 1) y (List.mem_of_getElem? g)).1
          have : x = (y : Int) := Option.some.inj e
          omega
      · rw [if_neg c, if_neg (by omega)] at e
        cases g : (r.deep (d + 1))[k - f - l.size - 1]? with
        | none => rw [g] at e; cases e
        | some y =>
          rw [g] at e
          have := (BT.deep_ge r (d + 1) y (List.mem_of_getElem? g)).1
          have : x = (y : Int) := Option.some.inj e
          omega
    have hv : ns[f + l.size]? = some (d : Int) := by
      rw [h _ (by omega), hd, if_neg (by omega), if_pos rfl] <;> rfl
    refine .node (m := (d : Int)) ⟨by omega, by omega, hv, fun k x k1 k2 hk => ?_, fun k x k1 k2 hk => ?_⟩ hl hr
    · by_cases c : k = f + l.size
      · rw [c, hv] at hk
        exact Int.le_of_eq (Option.some.inj hk)
      · have := val k x k1 k2 c hk
        omega
    · exact val k x k1 (by omega) (by omega) hk
theorem BT.deepI_len (t : BT) : t.deepI.length = t.size := by
  unfold BT.deepI
  rw [List.length_map, BT.deep_len]
theorem BT.deepI_cart (t : BT) : IsCart t.deepI 0 t.deepI.length t := by
  have h := BT.deep_cart t 0 0 t.deepI fun i _ => by
    unfold BT.deepI
    rw [Nat.zero_add, List.getElem?_map]
  rw [Nat.zero_add] at h
  rw [BT.deepI_len]
  exact h
/-- how places hang -/
theorem BT.links : ∀ (t : BT) (f d : Nat) (top : Option Nat) (i : Nat), i < t.size → ((t.code f top)[i]? = some top ∧ (t.deep d)[i]? = some d) ∨ ∃ j e, (t.code f top)[i]? = some (some (f + j)) ∧ j < t.size ∧ (t.deep d)[j]? = some e ∧ (t.deep d)[i]? = some (e + 1)
  | .nil, _, _, _, _, h => absurd h (Nat.not_lt_zero _)
  | .node l r, f, d, top, i, h => by
    have hs : (BT.node l r).size = l.size + 1 + r.size := rfl
    have hd : ∀ i, ((BT.node l r).deep d)[i]? = if i < l.size then (l.deep (d + 1))[i]? else if i = l.size then some d else (r.deep (d + 1))[i - l.size - 1]? := fun i => by
      show (l.deep (d + 1) ++ d :: r.deep (d + 1))[i]? = _
      rw [node_get, BT.deep_len]
    have hc : ∀ i, ((BT.node l r).code f top)[i]? = if i < l.size then (l.code f (some (f + l.size)))[i]? else if i = l.size then some top else (r.code (f + l.size + 1) (some (f + l.size)))[i - l.size - 1]? := fun i => by
      show (l.code f (some (f + l.size)) ++ top :: r.code (f + l.size + 1) (some (f + l.size)))[i]? = _
      rw [node_get, BT.code_len]
    by_cases c1 : i < l.size
    · rcases BT.links l f (d + 1) (some (f + l.size)) i c1 with ⟨a, b⟩ | ⟨j, e, a, b, c, g⟩
      · exact .inr ⟨l.size, d, by rw [hc, if_pos c1, a], by omega, by rw [hd, if_neg (by omega), if_pos rfl], by rw [hd, if_pos c1, b]⟩
      · exact .inr ⟨j, e, by rw [hc, if_pos c1, a], by omega, by rw [hd, if_pos b, c], by rw [hd, if_pos c1, g]⟩
    · by_cases c2 : i = l.size
      · exact .inl ⟨by rw [hc, if_neg c1, if_pos c2], by rw [hd, if_neg c1, if_pos c2]⟩
      · rcases BT.links r (f + l.size + 1) (d + 1) (some (f + l.size)) (i - l.size - 1) (by omega) with ⟨a, b⟩ | ⟨j, e, a, b, c, g⟩
        · exact .inr ⟨l.size, d, by rw [hc, if_neg c1, if_neg c2, a], by omega, by rw [hd, if_neg (by omega), if_pos rfl], by rw [hd, if_neg c1, if_neg c2, b]⟩
        · exact .inr ⟨l.size + 1 + j, e, by rw [hc, if_neg c1, if_neg c2, a, show f + l.size + 1 + j = f + (l.size + 1 + j) by omega], by omega, by rw [hd, if_neg (by omega), if_neg (by omega), show l.size + 1 + j - l.size - 1 = j by omega, c], by rw [hd, if_neg c1, if_neg c2, g]⟩
/-- climbing -/
def climb (xs : List V) : Nat → Nat → Nat → Option Nat
  | 0, _, deep => some deep
  | k + 1, at', deep => match xs[at']? with
    | some (.int j) => if 0 ≤ j ∧ j < (xs.length : Int) then climb xs k j.toNat (deep + 1) else none
    | _ => some deep
theorem climb_tree (t : BT) : ∀ (e k deep i : Nat), (t.deep 0)[i]? = some e → e < k → climb (t.codeV 0 none) k i deep = some (deep + e)
  | _, 0, _, _, _, h => absurd h (Nat.not_lt_zero _)
  | e, k + 1, deep, i, he, hk => by
    have hi : i < t.size := by
      have := (List.getElem?_eq_some_iff.mp he).1
      rw [BT.deep_len] at this
      exact this
    unfold climb
    have hx : (t.codeV 0 none)[i]? = ((t.code 0 none)[i]?).map oV := by
      unfold BT.codeV
      rw [List.getElem?_map]
    rcases BT.links t 0 0 none i hi with ⟨a, b⟩ | ⟨j, e', a, b, c, g⟩
    · rw [hx, a]
      rw [b] at he
      have := Option.some.inj he
      show some deep = some (deep + e)
      rw [← this, Nat.add_zero]
    · rw [hx, a, Nat.zero_add]
      show (if 0 ≤ (j : Int) ∧ (j : Int) < ((t.codeV 0 none).length : Int) then climb (t.codeV 0 none) k (j : Int).toNat (deep + 1) else none) = some (deep + e)
      rw [g] at he
      have he' := Option.some.inj he
      rw [BT.codeV_len, if_pos ⟨by omega, by omega⟩, Int.toNat_natCast, climb_tree t e' k (deep + 1) j c (by omega), ← he']
      congr 1
      omega
def depthsTo (xs : List V) : Nat → Option (List Nat)
  | 0 => some []
  | i + 1 => match depthsTo xs i with
    | none => none
    | some ds => match climb xs (xs.length + 1) i 0 with
      | none => none
      | some d => some (ds ++ [d])
theorem depthsTo_tree (t : BT) : ∀ i, i ≤ t.size → depthsTo (t.codeV 0 none) i = some ((t.deep 0).take i)
  | 0, _ => by
    rw [List.take_zero]
    rfl
  | i + 1, h => by
    have ih := depthsTo_tree t i (by omega)
    have hil : i < (t.deep 0).length := by
      rw [BT.deep_len]
      omega
    have hg : (t.deep 0)[i]? = some ((t.deep 0)[i]'hil) := List.getElem?_eq_getElem hil
    have hb := (BT.deep_ge t 0 _ (List.mem_of_getElem? hg)).2
    unfold depthsTo
    rw [ih, climb_tree t _ _ 0 i hg (by rw [BT.codeV_len]; omega), Nat.zero_add, take_more hg]
theorem depthsTo_len {xs : List V} : ∀ {i : Nat} {ds : List Nat}, depthsTo xs i = some ds → ds.length = i
  | 0, ds, h => by
    rw [← Option.some.inj h] <;> rfl
  | i + 1, ds, h => by
    unfold depthsTo at h
    cases e : depthsTo xs i with
    | none => rw [e] at h; cases h
    | some es =>
      rw [e] at h
      cases g : climb xs (xs.length + 1) i 0 with
      | none => rw [g] at h; cases h
      | some d =>
        rw [g] at h
        rw [← Option.some.inj h, List.length_append, depthsTo_len e] <;> rfl
def natI (ds : List Nat) : List Int := ds.map fun (n : Nat) => (n : Int)
theorem natI_len (ds : List Nat) : (natI ds).length = ds.length := List.length_map _
theorem natI_snoc (ds : List Nat) (e : Nat) : natI (ds ++ [e]) = natI ds ++ [(e : Int)] := by
  unfold natI
  rw [List.map_append]
  rfl
/-- what a tree is -/
def IsTree (xs : List V) : Prop := ∃ t : BT, xs = t.codeV 0 none
theorem isTree_deep {xs : List V} (h : IsTree xs) : ∃ t : BT, xs = t.codeV 0 none ∧ depthsTo xs xs.length = some (t.deep 0) ∧ IsCart (natI (t.deep 0)) 0 xs.length t := by
  obtain ⟨t, rfl⟩ := h
  refine ⟨t, rfl, ?_, ?_⟩
  · rw [BT.codeV_len, depthsTo_tree t t.size (Nat.le_refl _), List.take_of_length_le (by rw [BT.deep_len]; exact Nat.le_refl _)]
  · have := BT.deepI_cart t
    rw [BT.deepI_len] at this
    rw [BT.codeV_len]
    exact this
end VT
/-! ### all orders of so many numbers -/
namespace VT
open PySem L2
def insAt (row : List Int) (k at' : Nat) : List Int := row.take at' ++ [(k : Int)] ++ row.drop at'
def rowsAt (row : List Int) (k j : Nat) : List (List Int) := (List.range j).map (insAt row k)
def longTo (rows : List (List Int)) (k i : Nat) : List (List Int) := (rows.take i).flatMap fun row => rowsAt row k (k + 1)
def ordersL : Nat → List (List Int)
  | 0 => [[]]
  | k + 1 => longTo (ordersL k) k (ordersL k).length
theorem rowsAt_more (row : List Int) (k j : Nat) : rowsAt row k (j + 1) = rowsAt row k j ++ [insAt row k j] := by
  unfold rowsAt
  rw [List.range_succ, List.map_append]
  rfl
theorem rowsAt_len (row : List Int) (k j : Nat) : (rowsAt row k j).length = j := by
  unfold rowsAt
  rw [List.length_map, List.length_range]
theorem longTo_more {rows : List (List Int)} {k i : Nat} {row : List Int} (h : rows[i]? = some row) : longTo rows k (i + 1) = longTo rows k i ++ rowsAt row k (k + 1) := by
  unfold longTo
  rw [take_more h, List.flatMap_append, List.flatMap_cons, List.flatMap_nil, List.append_nil]
theorem longTo_len {rows : List (List Int)} {k : Nat} : ∀ {i : Nat}, i ≤ rows.length → (longTo rows k i).length = i * (k + 1)
  | 0, _ => by
    rw [Nat.zero_mul]
    rfl
  | i + 1, h => by
    have e : rows[i]? = some (rows[i]'h) := List.getElem?_eq_getElem h
    rw [longTo_more e, List.length_append, longTo_len (Nat.le_of_lt h), rowsAt_len, Nat.succ_mul]
def fact : Nat → Nat
  | 0 => 1
  | k + 1 => fact k * (k + 1)
theorem ordersL_len : ∀ k : Nat, (ordersL k).length = fact k
  | 0 => rfl
  | k + 1 => by
    show (longTo (ordersL k) k (ordersL k).length).length = fact k * (k + 1)
    rw [longTo_len (Nat.le_refl _), ordersL_len k]
theorem fact_mono {a b : Nat} (h : a ≤ b) : fact a ≤ fact b := by
  induction h with
  | refl => exact Nat.le_refl _
  | @step n _ ih =>
    show fact a ≤ fact n * (n + 1)
    exact Nat.le_trans ih (Nat.le_mul_of_pos_right _ (Nat.succ_pos n))
theorem fact_six {k : Nat} (h : k ≤ 6) : fact k ≤ 720 := Nat.le_trans (fact_mono h) (by decide)
theorem mem_longTo {rows : List (List Int)} {k : Nat} {p : List Int} (h : ∃ row, row ∈ rows ∧ ∃ a, a ≤ k ∧ p = insAt row k a) : p ∈ longTo rows k rows.length := by
  obtain ⟨row, hr, a, ha, rfl⟩ := h
  unfold longTo
  rw [List.take_length]
  refine List.mem_flatMap.mpr ⟨row, hr, List.mem_map.mpr ⟨a, List.mem_range.mpr (by omega), rfl⟩⟩
theorem of_longTo {rows : List (List Int)} {k : Nat} {p : List Int} (h : p ∈ longTo rows k rows.length) : ∃ row, row ∈ rows ∧ ∃ a, a ≤ k ∧ p = insAt row k a := by
  unfold longTo at h
  rw [List.take_length] at h
  obtain ⟨row, hr, h⟩ := List.mem_flatMap.mp h
  obtain ⟨a, ha, rfl⟩ := List.mem_map.mp h
  exact ⟨row, hr, a, by have := List.mem_range.mp ha; omega, rfl⟩
def numsTo (n : Nat) : List Int := natI (List.range n)
theorem numsTo_succ (n : Nat) : numsTo (n + 1) = numsTo n ++ [(n : Int)] := by
  unfold numsTo
  rw [List.range_succ, natI_snoc]
theorem numsTo_len (n : Nat) : (numsTo n).length = n := by
  unfold numsTo
  rw [natI_len, List.length_range]
theorem rgV_nums (n : Nat) : rgV 0 (n : Int) = (numsTo n).map V.int := by
  unfold rgV numsTo natI
  rw [List.map_map, show ((n : Int) - 0).toNat = n by omega]
  refine List.map_congr_left fun i _ => ?_
  show V.int (0 + (i : Int)) = V.int (i : Int)
  rw [Int.zero_add]
/-- every order is among them -/
theorem perm_mem : ∀ (n : Nat) (p : List Int), p.Perm (numsTo n) → p ∈ ordersL n
  | 0, p, h => by
    have e : p = [] := List.Perm.eq_nil h
    rw [e]
    exact List.mem_singleton.mpr rfl
  | n + 1, p, h => by
    rw [numsTo_succ] at h
    have hm : (n : Int) ∈ p := h.mem_iff.mpr (List.mem_append_right _ (List.mem_singleton.mpr rfl))
    obtain ⟨A, B, rfl⟩ := List.append_of_mem hm
    have h1 : ((n : Int) :: (A ++ B)).Perm ((n : Int) :: numsTo n) := List.Perm.trans List.perm_middle.symm (List.Perm.trans h (List.perm_append_singleton _ _))
    have h2 : (A ++ B).Perm (numsTo n) := List.Perm.cons_inv h1
    have hl : A.length ≤ n := by
      have := h2.length_eq
      rw [List.length_append, numsTo_len] at this
      omega
    refine mem_longTo ⟨A ++ B, perm_mem n _ h2, A.length, hl, ?_⟩
    unfold insAt
    rw [List.take_left' rfl, List.drop_left' rfl, List.append_assoc]
    rfl
theorem mem_perm : ∀ (n : Nat) (p : List Int), p ∈ ordersL n → p.Perm (numsTo n)
  | 0, p, h => by
    rw [List.mem_singleton.mp h]
    exact List.Perm.refl _
  | n + 1, p, h => by
    obtain ⟨row, hr, a, _, rfl⟩ := of_longTo h
    have ih := mem_perm n row hr
    rw [numsTo_succ]
    unfold insAt
    rw [List.append_assoc]
    refine List.Perm.trans List.perm_middle (List.Perm.trans ?_ (List.perm_append_singleton _ _).symm)
    show ((n : Int) :: (row.take a ++ row.drop a)).Perm ((n : Int) :: numsTo n)
    rw [List.take_append_drop]
    exact ih.cons _
theorem order_len {n : Nat} {p : List Int} (h : p ∈ ordersL n) : p.length = n := by
  rw [(mem_perm n p h).length_eq, numsTo_len]
/-- an order with a given tree -/
def BT.pre : BT → Nat → List Nat
  | .nil, _ => []
  | .node l r, c => l.pre (c + 1) ++ c :: r.pre (c + 1 + l.size)
theorem BT.pre_len : ∀ (t : BT) (c : Nat), (t.pre c).length = t.size
  | .nil, _ => rfl
  | .node l r, c => by
    show (l.pre (c + 1) ++ c :: r.pre (c + 1 + l.size)).length = l.size + 1 + r.size
    rw [List.length_append, List.length_cons, BT.pre_len l, BT.pre_len r]
    omega
theorem BT.pre_ge : ∀ (t : BT) (c x : Nat), x ∈ t.pre c → c ≤ x
  | .nil, _, _, h => by cases h
  | .node l r, c, x, h => by
    rcases List.mem_append.mp h with e | e
    · have := BT.pre_ge l (c + 1) x e
      omega
    · rcases List.mem_cons.mp e with e | e
      · omega
      · have := BT.pre_ge r _ x e
        omega
theorem BT.pre_perm : ∀ (t : BT) (c : Nat), (t.pre c).Perm (List.range' c t.size)
  | .nil, _ => List.Perm.refl _
  | .node l r, c => by
    have e : List.range' c (l.size + 1 + r.size) = c :: (List.range' (c + 1) l.size ++ List.range' (c + 1 + l.size) r.size) := by
      rw [show l.size + 1 + r.size = (l.size + r.size) + 1 by omega, List.range'_succ, List.range'_append_1]
    show (l.pre (c + 1) ++ c :: r.pre (c + 1 + l.size)).Perm (List.range' c (l.size + 1 + r.size))
    rw [e]
    exact List.Perm.trans List.perm_middle (((BT.pre_perm l (c + 1)).append (BT.pre_perm r (c + 1 + l.size))).cons c)
/-- a head that is less than all others -/
theorem cart_node {ns : List Int} {f b h : Nat} {d : Int} {l r : BT} (hl : IsCart ns f h l) (hr : IsCart ns (h + 1) b r) (hd : ns[h]? = some d) (hlt : ∀ k x, f ≤ k → k < b → k ≠ h → ns[k]? = some x → d < x) : IsCart ns f b (.node l r) := by
  have a := hl.size
  have c := hr.size
  refine .node (m := d) ⟨by omega, by omega, hd, fun k x k1 k2 hk => ?_, fun k x k1 k2 hk => ?_⟩ hl hr
  · by_cases e : k = h
    · rw [e, hd] at hk
      exact Int.le_of_eq (Option.some.inj hk)
    · have := hlt k x k1 k2 e hk
      omega
  · exact hlt k x k1 (by omega) (by omega) hk
theorem BT.pre_cart : ∀ (t : BT) (c f : Nat) (ns : List Int), (∀ i, i < t.size → ns[f + i]? = ((t.pre c)[i]?).map fun (n : Nat) => (n : Int)) → IsCart ns f (f + t.size) t
  | .nil, _, f, _, _ => .nil f
  | .node l r, c, f, ns, h => by
    have hd : ∀ i, ((BT.node l r).pre c)[i]? = if i < l.size then (l.pre (c + 1))[i]? else if i = l.size then some c else (r.pre (c + 1 + l.size))[i - l.size - 1]? := fun i => by
      show (l.pre (c + 1) ++ c :: r.pre (c + 1 + l.size))[i]? = _
      rw [node_get, BT.pre_len]
    have hs : (BT.node l r).size = l.size + 1 + r.size := rfl
    have hl := BT.pre_cart l (c + 1) f ns fun i hi => by
      rw [h i (by omega), hd, if_pos hi]
    have hr := BT.pre_cart r (c + 1 + l.size) (f + l.size + 1) ns fun i hi => by
      rw [show f + l.size + 1 + i = f + (l.size + 1 + i) by omega, h _ (by omega), hd, if_neg (by omega), if_neg (by omega), show l.size + 1 + i - l.size - 1 = i by omega]
    rw [show f + l.size + 1 + r.size = f + (BT.node l r).size by omega] at hr
    have hv : ns[f + l.size]? = some (c : Int) := by
      rw [h _ (by omega), hd, if_neg (by omega), if_pos rfl] <;> rfl
    refine cart_node hl hr hv fun k x k1 k2 k3 hk => ?_
    have e := h (k - f) (by omega)
    rw [show f + (k - f) = k by omega, hk, hd] at e
    by_cases c1 : k - f < l.size
    · rw [if_pos c1] at e
      cases g : (l.pre (c + 1))[k - f]? with
      | none => rw [g] at e; cases e
      | some y =>
        rw [g] at e
        have := BT.pre_ge l (c + 1) y (List.mem_of_getElem? g)
        have : x = (y : Int) := Option.some.inj e
        omega
    · rw [if_neg c1, if_neg (by omega)] at e
      cases g : (r.pre (c + 1 + l.size))[k - f - l.size - 1]? with
      | none => rw [g] at e; cases e
      | some y =>
        rw [g] at e
        have := BT.pre_ge r (c + 1 + l.size) y (List.mem_of_getElem? g)
        have : x = (y : Int) := Option.some.inj e
        omega
theorem pre_order (t : BT) : natI (t.pre 0) ∈ ordersL t.size ∧ IsCart (natI (t.pre 0)) 0 (natI (t.pre 0)).length t := by
  constructor
  · refine perm_mem _ _ ?_
    have := (BT.pre_perm t 0).map fun (n : Nat) => (n : Int)
    rw [← List.range_eq_range'] at this
    exact this
  · have h := BT.pre_cart t 0 0 (natI (t.pre 0)) fun i _ => by
      unfold natI
      rw [Nat.zero_add, List.getElem?_map]
    rw [Nat.zero_add] at h
    rw [natI_len, BT.pre_len]
    exact h
/-- an order's tree is the given one -/
def HasTree (row : List Int) (xs : List V) : Prop := ∃ t, IsCart row 0 row.length t ∧ t.codeV 0 none = xs
theorem hasTree_iff {row : List Int} {xs : List V} {t : BT} (h : IsCart row 0 row.length t) : HasTree row xs ↔ t.codeV 0 none = xs :=
  ⟨fun ⟨u, h1, h2⟩ => by rw [h.uniq h1]; exact h2, fun e => ⟨t, h, e⟩⟩
theorem isTree_order (xs : List V) : IsTree xs ↔ ∃ row, row ∈ ordersL xs.length ∧ HasTree row xs := by
  constructor
  · rintro ⟨t, rfl⟩
    obtain ⟨h1, h2⟩ := pre_order t
    refine ⟨_, ?_, t, h2, rfl⟩
    rw [BT.codeV_len]
    exact h1
  · rintro ⟨row, _, t, _, e⟩
    exact ⟨t, e.symm⟩
/-- references to things in the heap -/
inductive Refs {α : Type} (R : Addr → α → Prop) : List V → List α → Prop where
  | nil : Refs R [] []
  | cons {a : Addr} {x : α} {vs : List V} {xs : List α} (h : R a x) (r : Refs R vs xs) : Refs R (.ref a :: vs) (x :: xs)
theorem Refs.imp {α : Type} {R R' : Addr → α → Prop} (e : ∀ a x, R a x → R' a x) : ∀ {vs : List V} {xs : List α}, Refs R vs xs → Refs R' vs xs
  | _, _, .nil => .nil
  | _, _, .cons h r => .cons (e _ _ h) (r.imp e)
theorem Refs.len {α : Type} {R : Addr → α → Prop} : ∀ {vs : List V} {xs : List α}, Refs R vs xs → vs.length = xs.length
  | _, _, .nil => rfl
  | _, _, .cons _ r => congrArg (· + 1) r.len
theorem Refs.snoc {α : Type} {R : Addr → α → Prop} {a : Addr} {x : α} : ∀ {vs : List V} {xs : List α}, Refs R vs xs → R a x → Refs R (vs ++ [.ref a]) (xs ++ [x])
  | _, _, .nil, h => .cons h .nil
  | _, _, .cons g r, h => .cons g (r.snoc h)
theorem Refs.get {α : Type} {R : Addr → α → Prop} : ∀ {vs : List V} {xs : List α} {i : Nat} {v : V}, Refs R vs xs → vs[i]? = some v → ∃ a x, v = .ref a ∧ xs[i]? = some x ∧ R a x
  | _, _, i, v, .nil, e => by simp at e
  | _, _, 0, v, .cons h r, e => ⟨_, _, (Option.some.inj e).symm, rfl, h⟩
  | _, _, i + 1, v, .cons h r, e => r.get (i := i) e
def LstAt (H : Hp) (a : Addr) (row : List Int) : Prop := H a = some (.lst (row.map V.int))
end VT
/-! ### how many trees there are, and their numbers -/
namespace VT
open PySem L2
def catT : List Nat := [1, 1, 2, 5, 14, 42, 132, 429, 1430, 4862, 16796, 58786, 208012, 742900, 2674440, 9694845, 35357670, 129644790, 477638700, 1767263190, 6564120420, 24466267020, 91482563640, 343059613650, 1289904147324, 4861946401452, 18367353072152, 69533550916004, 263747951750360, 1002242216651368, 3814986502092304, 14544636039226909, 55534064877048198, 212336130412243110, 812944042149730764, 3116285494907301262, 11959798385860453492, 45950804324621742364, 176733862787006701400, 680425371729975800390, 2622127042276492108820]
def cat (s : Nat) : Nat := catT.getD s 0
/-- how many trees of s places have their head ahead of h -/
def upto (s : Nat) : Nat → Nat
  | 0 => 0
  | h + 1 => upto s h + cat h * cat (s - 1 - h)
theorem cat_all : ∀ s, s < 41 → 1 ≤ s → upto s s = cat s := by decide +kernel
theorem cat_lt_all : ∀ s, s < 41 → cat s < 2 ^ 80 ∧ 0 < cat s := by decide +kernel
theorem cat_rec {s : Nat} (h1 : 1 ≤ s) (h : s ≤ 40) : upto s s = cat s := cat_all s (by omega) h1
theorem cat_lt {s : Nat} (h : s ≤ 40) : cat s < 2 ^ 80 := (cat_lt_all s (by omega)).1
theorem cat_pos {s : Nat} (h : s ≤ 40) : 0 < cat s := (cat_lt_all s (by omega)).2
theorem upto_mono (s : Nat) {a b : Nat} (h : a ≤ b) : upto s a ≤ upto s b := by
  induction h with
  | refl => exact Nat.le_refl _
  | step _ ih => exact Nat.le_trans ih (Nat.le_add_right _ _)
def BT.rank : BT → Nat
  | .nil => 0
  | .node l r => upto (l.size + 1 + r.size) l.size + l.rank * cat r.size + r.rank
theorem two_lt {a b m n : Nat} (h1 : a < m) (h2 : b < n) : a * n + b < m * n := by
  have : (a + 1) * n ≤ m * n := Nat.mul_le_mul_right _ h1
  rw [Nat.succ_mul] at this
  omega
theorem BT.rank_lt : ∀ (t : BT), t.size ≤ 40 → t.rank < cat t.size
  | .nil, _ => by decide
  | .node l r, h => by
    have hs : (BT.node l r).size = l.size + 1 + r.size := rfl
    have hl := BT.rank_lt l (by omega)
    have hr := BT.rank_lt r (by omega)
    have h1 := two_lt hl hr
    have h2 : upto (l.size + 1 + r.size) (l.size + 1) = upto (l.size + 1 + r.size) l.size + cat l.size * cat (l.size + 1 + r.size - 1 - l.size) := rfl
    rw [show l.size + 1 + r.size - 1 - l.size = r.size by omega] at h2
    have h3 := upto_mono (l.size + 1 + r.size) (a := l.size + 1) (b := l.size + 1 + r.size) (by omega)
    rw [cat_rec (by omega) (by omega)] at h3
    show upto (l.size + 1 + r.size) l.size + l.rank * cat r.size + r.rank < cat (l.size + 1 + r.size)
    omega
theorem upto_at {s : Nat} : ∀ (h n : Nat), n < upto s h → ∃ k, k < h ∧ upto s k ≤ n ∧ n < upto s (k + 1)
  | 0, n, hn => absurd hn (Nat.not_lt_zero _)
  | h + 1, n, hn => by
    by_cases c : n < upto s h
    · obtain ⟨k, h1, h2, h3⟩ := upto_at h n c
      exact ⟨k, by omega, h2, h3⟩
    · exact ⟨h, Nat.lt_succ_self _, by omega, hn⟩
theorem BT.unrank : ∀ (m s n : Nat), s ≤ m → s ≤ 40 → n < cat s → ∃ t : BT, t.size = s ∧ t.rank = n
  | _, 0, n, _, _, hn => by
    have : cat 0 = 1 := by decide
    rw [this] at hn
    refine ⟨.nil, rfl, ?_⟩
    show 0 = n
    omega
  | 0, s + 1, _, h, _, _ => absurd h (by omega)
  | m + 1, s + 1, n, hm, hs, hn => by
    rw [← cat_rec (by omega) hs] at hn
    obtain ⟨k, k1, k2, k3⟩ := upto_at (s + 1) n hn
    have k4 : upto (s + 1) (k + 1) = upto (s + 1) k + cat k * cat (s - k) := by
      show upto (s + 1) k + cat k * cat (s + 1 - 1 - k) = _
      rw [show s + 1 - 1 - k = s - k by omega]
    have hp := cat_pos (s := s - k) (by omega)
    obtain ⟨l, hl1, hl2⟩ := BT.unrank m k ((n - upto (s + 1) k) / cat (s - k)) (by omega) (by omega) (by
      rw [Nat.div_lt_iff_lt_mul hp]
      omega)
    obtain ⟨r, hr1, hr2⟩ := BT.unrank m (s - k) ((n - upto (s + 1) k) % cat (s - k)) (by omega) (by omega) (Nat.mod_lt _ hp)
    refine ⟨.node l r, by show l.size + 1 + r.size = s + 1; omega, ?_⟩
    show upto (l.size + 1 + r.size) l.size + l.rank * cat r.size + r.rank = n
    rw [hl1, hl2, hr1, hr2, show k + 1 + (s - k) = s + 1 by omega]
    have e := Nat.div_add_mod (n - upto (s + 1) k) (cat (s - k))
    rw [Nat.mul_comm] at e
    omega
theorem two_inj {a b a' b' n : Nat} (h1 : b < n) (h2 : b' < n) (e : a * n + b = a' * n + b') : a = a' ∧ b = b' := by
  have d : a = a' := by
    have x : (a * n + b) / n = a := by
      rw [Nat.mul_comm, Nat.mul_add_div (by omega), Nat.div_eq_of_lt h1, Nat.add_zero]
    have y : (a' * n + b') / n = a' := by
      rw [Nat.mul_comm, Nat.mul_add_div (by omega), Nat.div_eq_of_lt h2, Nat.add_zero]
    rw [← x, ← y, e]
  subst d
  exact ⟨rfl, by omega⟩
theorem BT.rank_inj : ∀ (t u : BT), t.size = u.size → t.size ≤ 40 → t.rank = u.rank → t = u
  | .nil, .nil, _, _, _ => rfl
  | .nil, .node l r, h, _, _ => by
    have : (0 : Nat) = l.size + 1 + r.size := h
    omega
  | .node l r, .nil, h, _, _ => by
    have : l.size + 1 + r.size = 0 := h
    omega
  | .node l r, .node l' r', h, hs, e => by
    have h' : l.size + 1 + r.size = l'.size + 1 + r'.size := h
    have hs' : l.size + 1 + r.size ≤ 40 := hs
    have e' : upto (l.size + 1 + r.size) l.size + l.rank * cat r.size + r.rank = upto (l'.size + 1 + r'.size) l'.size + l'.rank * cat r'.size + r'.rank := e
    have b1 := two_lt (BT.rank_lt l (by omega)) (BT.rank_lt r (by omega))
    have b2 := two_lt (BT.rank_lt l' (by omega)) (BT.rank_lt r' (by omega))
    have n1 : upto (l.size + 1 + r.size) (l.size + 1) = upto (l.size + 1 + r.size) l.size + cat l.size * cat r.size := by
      show upto (l.size + 1 + r.size) l.size + cat l.size * cat (l.size + 1 + r.size - 1 - l.size) = _
      rw [show l.size + 1 + r.size - 1 - l.size = r.size by omega]
    have n2 : upto (l'.size + 1 + r'.size) (l'.size + 1) = upto (l'.size + 1 + r'.size) l'.size + cat l'.size * cat r'.size := by
      show upto (l'.size + 1 + r'.size) l'.size + cat l'.size * cat (l'.size + 1 + r'.size - 1 - l'.size) = _
      rw [show l'.size + 1 + r'.size - 1 - l'.size = r'.size by omega]
    rw [← h'] at e' n2
    have el : l.size = l'.size := by
      rcases Nat.lt_trichotomy l.size l'.size with c | c | c
      · have := upto_mono (l.size + 1 + r.size) (a := l.size + 1) (b := l'.size) c
        omega
      · exact c
      · have := upto_mono (l.size + 1 + r.size) (a := l'.size + 1) (b := l.size) c
        omega
    have er : r.size = r'.size := by omega
    rw [el, er] at e'
    have lt1 := BT.rank_lt r (by omega)
    have lt2 := BT.rank_lt r' (by omega)
    rw [er] at lt1
    obtain ⟨x, y⟩ := two_inj (a := l.rank) (a' := l'.rank) lt1 lt2 (by omega)
    rw [BT.rank_inj l l' el (by omega) x, BT.rank_inj r r' er (by omega) y]
def cats (n : Nat) : List Int := (List.range n).map fun i => (cat i : Int)
theorem cats_len (n : Nat) : (cats n).length = n := by
  unfold cats
  rw [List.length_map, List.length_range]
theorem cats_more (n : Nat) : cats (n + 1) = cats n ++ [(cat n : Int)] := by
  unfold cats
  rw [List.range_succ, List.map_append]
  rfl
theorem cats_at {n i : Nat} (h : i < n) : ((cats n).map V.int)[i]? = some (.int (cat i : Int)) := by
  unfold cats
  rw [List.getElem?_map, List.getElem?_map, List.getElem?_range h]
  rfl
/-- the products whose sum upto is -/
def prods (s i : Nat) : List Int := (List.range i).map fun h => (cat h : Int) * (cat (s - 1 - h) : Int)
theorem prods_more (s i : Nat) : prods s (i + 1) = prods s i ++ [(cat i : Int) * (cat (s - 1 - i) : Int)] := by
  unfold prods
  rw [List.range_succ, List.map_append]
  rfl
theorem prods_len (s i : Nat) : (prods s i).length = i := by
  unfold prods
  rw [List.length_map, List.length_range]
theorem prods_sum (s : Nat) : ∀ i, (prods s i).sum = (upto s i : Int)
  | 0 => rfl
  | i + 1 => by
    rw [prods_more, List.sum_append, prods_sum s i]
    show (upto s i : Int) + ((cat i : Int) * (cat (s - 1 - i) : Int) + 0) = ((upto s i + cat i * cat (s - 1 - i) : Nat) : Int)
    rw [Int.natCast_add, Int.natCast_mul, Int.add_zero]
theorem cmul_cat {i j : Nat} (h1 : i ≤ 40) (h2 : j ≤ 40) : CMulW (cat i : Int) (cat j : Int) := wide_mul (a := 80) (b := 80) (by have := cat_lt h1; omega) (by have := cat_lt h2; omega) (by decide) (by decide) (by decide)
/-- a stretch of a list that is a tree's -/
def Sub (xs : List V) (t : BT) (f : Nat) (top : Option Nat) : Prop := ∀ i, i < t.size → xs[f + i]? = ((t.code f top)[i]?).map oV
theorem Sub.whole (t : BT) : Sub (t.codeV 0 none) t 0 none := fun i _ => by
  unfold BT.codeV
  rw [Nat.zero_add, List.getElem?_map]
theorem BT.code_at (l r : BT) (f : Nat) (top : Option Nat) (i : Nat) : ((BT.node l r).code f top)[i]? = if i < l.size then (l.code f (some (f + l.size)))[i]? else if i = l.size then some top else (r.code (f + l.size + 1) (some (f + l.size)))[i - l.size - 1]? := by
  show (l.code f (some (f + l.size)) ++ top :: r.code (f + l.size + 1) (some (f + l.size)))[i]? = _
  rw [node_get, BT.code_len]
theorem Sub.left {xs : List V} {l r : BT} {f : Nat} {top : Option Nat} (h : Sub xs (.node l r) f top) : Sub xs l f (some (f + l.size)) := fun i hi => by
  rw [h i (by show i < l.size + 1 + r.size; omega), BT.code_at, if_pos hi]
theorem Sub.right {xs : List V} {l r : BT} {f : Nat} {top : Option Nat} (h : Sub xs (.node l r) f top) : Sub xs r (f + l.size + 1) (some (f + l.size)) := fun i hi => by
  have := h (l.size + 1 + i) (by show l.size + 1 + i < l.size + 1 + r.size; omega)
  rw [BT.code_at, if_neg (by omega), if_neg (by omega), show l.size + 1 + i - l.size - 1 = i by omega] at this
  rw [← this, show f + l.size + 1 + i = f + (l.size + 1 + i) by omega]
theorem Sub.head {xs : List V} {l r : BT} {f : Nat} {top : Option Nat} (h : Sub xs (.node l r) f top) : xs[f + l.size]? = some (oV top) := by
  have := h l.size (by show l.size < l.size + 1 + r.size; omega)
  rw [BT.code_at, if_neg (by omega), if_pos rfl] at this
  exact this
theorem BT.code_in : ∀ (t : BT) (f h i : Nat), i < t.size → ∃ q, (t.code f (some h))[i]? = some (some q) ∧ (q = h ∨ f ≤ q ∧ q < f + t.size)
  | .nil, _, _, _, hi => absurd hi (Nat.not_lt_zero _)
  | .node l r, f, h, i, hi => by
    have hs : (BT.node l r).size = l.size + 1 + r.size := rfl
    rw [BT.code_at]
    by_cases c : i < l.size
    · rw [if_pos c]
      obtain ⟨q, e, g⟩ := BT.code_in l f (f + l.size) i c
      exact ⟨q, e, .inr (by omega)⟩
    · rw [if_neg c]
      by_cases c2 : i = l.size
      · rw [if_pos c2]
        exact ⟨h, rfl, .inl rfl⟩
      · rw [if_neg c2]
        obtain ⟨q, e, g⟩ := BT.code_in r (f + l.size + 1) (f + l.size) (i - l.size - 1) (by omega)
        exact ⟨q, e, .inr (by omega)⟩
theorem Sub.before {xs : List V} {l r : BT} {f : Nat} {top : Option Nat} (h : Sub xs (.node l r) f top) {i : Nat} (hi : i < l.size) : ∃ q : Nat, xs[f + i]? = some (.int (q : Int)) ∧ f ≤ q ∧ q < f + (BT.node l r).size := by
  have hs : (BT.node l r).size = l.size + 1 + r.size := rfl
  obtain ⟨q, e, g⟩ := BT.code_in l f (f + l.size) i hi
  refine ⟨q, ?_, by omega, by omega⟩
  rw [h.left i hi, e]
  rfl
/-- a top that is not in the stretch -/
def Out (top : Option Nat) (f b : Nat) : Prop := ∀ q, top = some q → q < f ∨ b ≤ q
theorem Out.none (f b : Nat) : Out none f b := fun q h => by cases h
theorem Out.left (f h : Nat) : Out (some h) f h := fun q e => by
  rw [← Option.some.inj e]
  exact .inr (Nat.le_refl _)
theorem Out.right (h b : Nat) : Out (some h) (h + 1) b := fun q e => by
  rw [← Option.some.inj e]
  exact .inl (Nat.lt_succ_self _)
end VT
/-! ### orders with a tree, and their numbers -/
namespace VT
open PySem L2
def bin : Nat → Nat → Nat
  | _, 0 => 1
  | 0, _ + 1 => 0
  | n + 1, k + 1 => bin n k + bin n (k + 1)
theorem bin_zero (n : Nat) : bin n 0 = 1 := by
  cases n <;> rfl
theorem bin_big : ∀ {n k : Nat}, n < k → bin n k = 0
  | _, 0, h => absurd h (Nat.not_lt_zero _)
  | 0, _ + 1, _ => rfl
  | n + 1, k + 1, h => by
    show bin n k + bin n (k + 1) = 0
    rw [bin_big (by omega), bin_big (by omega)]
theorem bin_self : ∀ n : Nat, bin n n = 1
  | 0 => rfl
  | n + 1 => by
    show bin n n + bin n (n + 1) = 1
    rw [bin_self n, bin_big (Nat.lt_succ_self n)]
theorem bin_pos : ∀ {n k : Nat}, k ≤ n → 0 < bin n k
  | _, 0, _ => by rw [bin_zero]; exact Nat.one_pos
  | 0, k + 1, h => absurd h (Nat.not_succ_le_zero k)
  | n + 1, k + 1, h => Nat.lt_of_lt_of_le (bin_pos (n := n) (k := k) (by omega)) (Nat.le_add_right _ _)
theorem bin_step : ∀ m k : Nat, bin m (k + 1) * (k + 1) = bin m k * (m - k)
  | 0, k => by
    rw [Nat.zero_sub, Nat.mul_zero]
    show 0 * (k + 1) = 0
    rw [Nat.zero_mul]
  | m + 1, 0 => by
    have h := bin_step m 0
    rw [bin_zero, Nat.sub_zero, Nat.mul_one, Nat.one_mul] at h
    show (bin m 0 + bin m 1) * 1 = bin (m + 1) 0 * (m + 1 - 0)
    rw [bin_zero, bin_zero, h]
    omega
  | m + 1, k + 1 => by
    have h1 := bin_step m (k + 1)
    have h2 := bin_step m k
    show (bin m (k + 1) + bin m (k + 1 + 1)) * (k + 1 + 1) = (bin m k + bin m (k + 1)) * (m + 1 - (k + 1))
    rw [Nat.add_mul, h1, Nat.add_mul, show m + 1 - (k + 1) = m - k by omega, ← h2, ← Nat.mul_add, ← Nat.mul_add]
    by_cases c : k + 1 ≤ m
    · congr 1
      omega
    · by_cases e : k = m
      · subst e
        rw [bin_big (Nat.lt_succ_self k), Nat.zero_mul, Nat.zero_mul]
      · rw [bin_big (by omega), Nat.zero_mul, Nat.zero_mul]
theorem fact_pos : ∀ n : Nat, 0 < fact n
  | 0 => Nat.one_pos
  | n + 1 => Nat.mul_pos (fact_pos n) (Nat.succ_pos n)
theorem bin_fact : ∀ a b : Nat, bin (a + b) a * (fact a * fact b) = fact (a + b)
  | 0, b => by
    rw [bin_zero, Nat.one_mul, Nat.zero_add]
    show 1 * fact b = fact b
    rw [Nat.one_mul]
  | a + 1, 0 => by
    rw [Nat.add_zero, bin_self, Nat.one_mul]
    show fact (a + 1) * 1 = fact (a + 1)
    rw [Nat.mul_one]
  | a + 1, b + 1 => by
    have h1 := bin_fact a (b + 1)
    have h2 := bin_fact (a + 1) b
    have e1 : a + 1 + (b + 1) = (a + (b + 1)) + 1 := by omega
    have e2 : a + 1 + b = a + (b + 1) := by omega
    rw [e2] at h2
    rw [e1]
    show (bin (a + (b + 1)) a + bin (a + (b + 1)) (a + 1)) * (fact a * (a + 1) * (fact b * (b + 1))) = fact (a + (b + 1)) * (a + (b + 1) + 1)
    have h1' : bin (a + (b + 1)) a * (fact a * (fact b * (b + 1))) = fact (a + (b + 1)) := h1
    have h2' : bin (a + (b + 1)) (a + 1) * (fact a * (a + 1) * fact b) = fact (a + (b + 1)) := h2
    have p1 : bin (a + (b + 1)) a * (fact a * (a + 1) * (fact b * (b + 1))) = bin (a + (b + 1)) a * (fact a * (fact b * (b + 1))) * (a + 1) := by
      simp only [Nat.mul_assoc, Nat.mul_left_comm, Nat.mul_comm]
    have p2 : bin (a + (b + 1)) (a + 1) * (fact a * (a + 1) * (fact b * (b + 1))) = bin (a + (b + 1)) (a + 1) * (fact a * (a + 1) * fact b) * (b + 1) := by
      simp only [Nat.mul_assoc, Nat.mul_left_comm, Nat.mul_comm]
    rw [Nat.add_mul, p1, p2, h1', h2', ← Nat.mul_add, show a + 1 + (b + 1) = a + (b + 1) + 1 by omega]
/-- how many orders a tree has -/
def cnt : BT → Nat
  | .nil => 1
  | .node l r => bin (l.size + r.size) l.size * cnt l * cnt r
def hooks : BT → Nat
  | .nil => 1
  | .node l r => (l.size + 1 + r.size) * (hooks l * hooks r)
theorem hook : ∀ t : BT, cnt t * hooks t = fact t.size
  | .nil => rfl
  | .node l r => by
    have hl := hook l
    have hr := hook r
    have hb := bin_fact l.size r.size
    rw [← hl, ← hr] at hb
    have e : (BT.node l r).size = (l.size + r.size) + 1 := by
      show l.size + 1 + r.size = _
      omega
    rw [e]
    show bin (l.size + r.size) l.size * cnt l * cnt r * ((l.size + 1 + r.size) * (hooks l * hooks r)) = fact (l.size + r.size) * (l.size + r.size + 1)
    rw [← hb, show l.size + 1 + r.size = l.size + r.size + 1 by omega]
    simp only [Nat.mul_assoc, Nat.mul_left_comm, Nat.mul_comm]
theorem cnt_pos : ∀ t : BT, 0 < cnt t
  | .nil => Nat.one_pos
  | .node l r => Nat.mul_pos (Nat.mul_pos (bin_pos (Nat.le_add_right _ _)) (cnt_pos l)) (cnt_pos r)
theorem hooks_pos : ∀ t : BT, 0 < hooks t
  | .nil => Nat.one_pos
  | .node l r => Nat.mul_pos (by omega) (Nat.mul_pos (hooks_pos l) (hooks_pos r))
theorem cnt_le (t : BT) : cnt t ≤ fact t.size := by
  rw [← hook t]
  exact Nat.le_mul_of_pos_right _ (hooks_pos t)
theorem fact_forty : fact 40 < 2 ^ 160 := by decide +kernel
theorem cnt_lt {t : BT} (h : t.size ≤ 40) : cnt t < 2 ^ 160 := Nat.lt_of_le_of_lt (Nat.le_trans (cnt_le t) (fact_mono h)) fact_forty
theorem bin_le_pow : ∀ n k : Nat, bin n k ≤ 2 ^ n
  | n, 0 => by
    rw [bin_zero]
    exact Nat.one_le_two_pow
  | 0, k + 1 => Nat.zero_le _
  | n + 1, k + 1 => by
    have a := bin_le_pow n k
    have b := bin_le_pow n (k + 1)
    show bin n k + bin n (k + 1) ≤ 2 ^ (n + 1)
    rw [Nat.pow_succ]
    omega
theorem bin_lt {n : Nat} (k : Nat) (h : n ≤ 40) : bin n k < 2 ^ 41 := Nat.lt_of_le_of_lt (bin_le_pow n k) (Nat.pow_lt_pow_right (by decide) (by omega))
/-! choices -/
def ct : List Bool → Nat
  | [] => 0
  | true :: s => ct s + 1
  | false :: s => ct s
def selRank : List Bool → Nat
  | [] => 0
  | true :: s => selRank s
  | false :: s => (if 0 < ct s then bin s.length (ct s - 1) else 0) + selRank s
theorem ct_le : ∀ s : List Bool, ct s ≤ s.length
  | [] => Nat.le_refl _
  | true :: s => Nat.succ_le_succ (ct_le s)
  | false :: s => Nat.le_succ_of_le (ct_le s)
theorem selRank_lt : ∀ s : List Bool, selRank s < bin s.length (ct s)
  | [] => Nat.one_pos
  | true :: s => by
    have h := selRank_lt s
    show selRank s < bin s.length (ct s) + bin s.length (ct s + 1)
    omega
  | false :: s => by
    have h := selRank_lt s
    show (if 0 < ct s then bin s.length (ct s - 1) else 0) + selRank s < bin (s.length + 1) (ct s)
    cases e : ct s with
    | zero =>
      rw [e, bin_zero] at h
      rw [if_neg (Nat.lt_irrefl 0), bin_zero]
      omega
    | succ c =>
      rw [e] at h
      rw [if_pos (Nat.succ_pos c)]
      show bin s.length c + selRank s < bin s.length c + bin s.length (c + 1)
      omega
theorem sel_ex : ∀ n k m : Nat, m < bin n k → ∃ s : List Bool, s.length = n ∧ ct s = k ∧ selRank s = m
  | 0, 0, m, h => ⟨[], rfl, rfl, by
    have : m < 1 := h
    show 0 = m
    omega⟩
  | 0, k + 1, m, h => absurd h (Nat.not_lt_zero _)
  | n + 1, 0, m, h => by
    have h' : m < 1 := h
    obtain ⟨s, h1, h2, h3⟩ := sel_ex n 0 0 (by rw [bin_zero]; exact Nat.one_pos)
    refine ⟨false :: s, by rw [List.length_cons, h1], h2, ?_⟩
    show (if 0 < ct s then bin s.length (ct s - 1) else 0) + selRank s = m
    rw [h2, h3, if_neg (Nat.lt_irrefl 0)]
    omega
  | n + 1, k + 1, m, h => by
    have h' : m < bin n k + bin n (k + 1) := h
    by_cases c : m < bin n k
    · obtain ⟨s, h1, h2, h3⟩ := sel_ex n k m c
      exact ⟨true :: s, by rw [List.length_cons, h1], by show ct s + 1 = k + 1; rw [h2], h3⟩
    · obtain ⟨s, h1, h2, h3⟩ := sel_ex n (k + 1) (m - bin n k) (by omega)
      refine ⟨false :: s, by rw [List.length_cons, h1], h2, ?_⟩
      show (if 0 < ct s then bin s.length (ct s - 1) else 0) + selRank s = m
      rw [h2, h3, if_pos (Nat.succ_pos k), h1, Nat.add_sub_cancel]
      omega
theorem sel_inj : ∀ s s' : List Bool, s.length = s'.length → ct s = ct s' → selRank s = selRank s' → s = s'
  | [], [], _, _, _ => rfl
  | [], _ :: _, h, _, _ => by cases h
  | _ :: _, [], h, _, _ => by cases h
  | true :: s, true :: s', h, c, e => by
    rw [sel_inj s s' (Nat.succ.inj h) (Nat.succ.inj c) e]
  | false :: s, false :: s', h, c, e => by
    have h' : s.length = s'.length := Nat.succ.inj h
    have c' : ct s = ct s' := c
    have e' : (if 0 < ct s then bin s.length (ct s - 1) else 0) + selRank s = (if 0 < ct s' then bin s'.length (ct s' - 1) else 0) + selRank s' := e
    rw [h', c'] at e'
    rw [sel_inj s s' h' c' (by omega)]
  | true :: s, false :: s', h, c, e => by
    have h' : s.length = s'.length := Nat.succ.inj h
    have c' : ct s + 1 = ct s' := c
    have e' : selRank s = (if 0 < ct s' then bin s'.length (ct s' - 1) else 0) + selRank s' := e
    have := selRank_lt s
    rw [← c', if_pos (Nat.succ_pos _), Nat.add_sub_cancel, ← h'] at e'
    omega
  | false :: s, true :: s', h, c, e => by
    have h' : s.length = s'.length := Nat.succ.inj h
    have c' : ct s = ct s' + 1 := c
    have e' : (if 0 < ct s then bin s.length (ct s - 1) else 0) + selRank s = selRank s' := e
    have := selRank_lt s'
    rw [c', if_pos (Nat.succ_pos _), Nat.add_sub_cancel, h'] at e'
    omega
/-- the things that a choice takes (true), leaves (false) -/
def keep (b : Bool) : List Bool → List Int → List Int
  | c :: s, x :: xs => if c = b then x :: keep b s xs else keep b s xs
  | _, _ => []
theorem keep_len : ∀ (s : List Bool) (xs : List Int), s.length = xs.length → (keep true s xs).length = ct s ∧ (keep false s xs).length + ct s = xs.length
  | [], [], _ => ⟨rfl, rfl⟩
  | [], _ :: _, h => by cases h
  | _ :: _, [], h => by cases h
  | true :: s, x :: xs, h => by
    obtain ⟨a, b⟩ := keep_len s xs (Nat.succ.inj h)
    refine ⟨?_, ?_⟩
    · show (x :: keep true s xs).length = ct s + 1
      rw [List.length_cons, a]
    · show (keep false s xs).length + (ct s + 1) = xs.length + 1
      omega
  | false :: s, x :: xs, h => by
    obtain ⟨a, b⟩ := keep_len s xs (Nat.succ.inj h)
    refine ⟨a, ?_⟩
    show (x :: keep false s xs).length + ct s = xs.length + 1
    rw [List.length_cons]
    omega
theorem keep_sub : ∀ (b : Bool) (s : List Bool) (xs : List Int), (keep b s xs).Sublist xs
  | b, [], xs => List.nil_sublist _
  | b, _ :: _, [] => List.nil_sublist _
  | b, c :: s, x :: xs => by
    show (if c = b then x :: keep b s xs else keep b s xs).Sublist (x :: xs)
    by_cases e : c = b
    · rw [if_pos e]
      exact (keep_sub b s xs).cons₂ x
    · rw [if_neg e]
      exact (keep_sub b s xs).cons x
theorem keep_perm : ∀ (s : List Bool) (xs : List Int), s.length = xs.length → (keep true s xs ++ keep false s xs).Perm xs
  | [], [], _ => List.Perm.refl _
  | [], _ :: _, h => by cases h
  | _ :: _, [], h => by cases h
  | true :: s, x :: xs, h => (keep_perm s xs (Nat.succ.inj h)).cons x
  | false :: s, x :: xs, h => by
    show (keep true s xs ++ x :: keep false s xs).Perm (x :: xs)
    exact List.perm_middle.trans ((keep_perm s xs (Nat.succ.inj h)).cons x)
theorem keep_map (p : Int → Bool) : ∀ xs : List Int, keep true (xs.map p) xs = xs.filter p ∧ keep false (xs.map p) xs = xs.filter fun x => !p x
  | [] => ⟨rfl, rfl⟩
  | x :: xs => by
    obtain ⟨a, b⟩ := keep_map p xs
    refine ⟨?_, ?_⟩
    · show (if p x = true then x :: keep true (xs.map p) xs else keep true (xs.map p) xs) = _
      rw [List.filter_cons, a]
    · show (if p x = false then x :: keep false (xs.map p) xs else keep false (xs.map p) xs) = _
      rw [List.filter_cons, b]
      cases p x <;> rfl
theorem ct_map (p : Int → Bool) : ∀ xs : List Int, ct (xs.map p) = (xs.filter p).length
  | [] => rfl
  | x :: xs => by
    have ih := ct_map p xs
    rw [List.map_cons, List.filter_cons]
    cases e : p x with
    | true =>
      rw [if_pos rfl, List.length_cons, ← ih]
      rfl
    | false =>
      rw [if_neg Bool.false_ne_true, ← ih]
      rfl
/-- strictly upwards -/
def Up (xs : List Int) : Prop := xs.Pairwise (· < ·)
theorem Up.nodup {xs : List Int} (h : Up xs) : xs.Nodup := List.Pairwise.imp (fun {a b} (c : a < b) (e : a = b) => Int.lt_irrefl b (e ▸ c)) h
theorem Up.keep {xs : List Int} (h : Up xs) (b : Bool) (s : List Bool) : Up (keep b s xs) := List.Pairwise.sublist (keep_sub b s xs) h
theorem Up.tail {x : Int} {xs : List Int} (h : Up (x :: xs)) : Up xs := (List.pairwise_cons.mp h).2
theorem Up.head {x : Int} {xs : List Int} (h : Up (x :: xs)) : ∀ y ∈ xs, x < y := (List.pairwise_cons.mp h).1
theorem Up.eq {xs ys : List Int} (h : Up xs) (p : ys.Perm xs) (hs : ys.Pairwise (· ≤ ·)) : ys = xs :=
  List.Perm.eq_of_pairwise (fun a b _ _ h1 h2 => Int.le_antisymm h1 h2) hs (List.Pairwise.imp (fun {a b} c => Int.le_of_lt c) h) p
theorem keep_mask {xs : List Int} (h : Up xs) : ∀ (s : List Bool), s.length = xs.length → ∀ ys : List Int, ys.Perm (VT.keep true s xs) → xs.map (fun x => decide (x ∈ ys)) = s := by
  induction xs with
  | nil =>
    intro s hs ys _
    rw [List.eq_nil_of_length_eq_zero hs]
    rfl
  | cons x xs ih =>
    intro s hs ys hy
    cases s with
    | nil => cases hs
    | cons b s =>
      have hs' : s.length = xs.length := Nat.succ.inj hs
      have nx : ∀ b, x ∉ VT.keep b s xs := fun b z => absurd (h.head x ((keep_sub b s xs).subset z)) (Int.lt_irrefl x)
      rw [List.map_cons]
      cases b with
      | true =>
        have hy' : ys.Perm (x :: VT.keep true s xs) := hy
        have e1 : decide (x ∈ ys) = true := decide_eq_true (hy'.mem_iff.mpr (List.mem_cons_self ..))
        rw [e1]
        congr 1
        rw [← ih h.tail s hs' (VT.keep true s xs) (List.Perm.refl _)]
        refine List.map_congr_left fun y hyx => decide_eq_decide.mpr ?_
        rw [hy'.mem_iff, List.mem_cons]
        exact ⟨fun z => z.resolve_left fun e => absurd (h.head y hyx) (by rw [e]; exact Int.lt_irrefl x), .inr⟩
      | false =>
        have hy' : ys.Perm (VT.keep true s xs) := hy
        have e1 : decide (x ∈ ys) = false := decide_eq_false fun z => nx true (hy'.mem_iff.mp z)
        rw [e1]
        congr 1
        exact ih h.tail s hs' ys hy'
/-! decorated trees: an order of a tree -/
inductive DT where
  | nil : DT
  | node (s : List Bool) (l r : DT) : DT
def DT.tree : DT → BT
  | .nil => .nil
  | .node _ l r => .node l.tree r.tree
def DT.ok : DT → Prop
  | .nil => True
  | .node s l r => s.length = l.tree.size + r.tree.size ∧ ct s = l.tree.size ∧ l.ok ∧ r.ok
def DT.num : DT → Nat
  | .nil => 0
  | .node s l r => (selRank s * cnt l.tree + l.num) * cnt r.tree + r.num
def DT.vals : DT → List Int → List Int
  | .nil, _ => []
  | .node s l r, xs => match xs with
    | [] => []
    | x :: xs => l.vals (keep true s xs) ++ x :: r.vals (keep false s xs)
theorem DT.num_lt : ∀ d : DT, d.ok → d.num < cnt d.tree
  | .nil, _ => Nat.one_pos
  | .node s l r, h => by
    obtain ⟨h1, h2, h3, h4⟩ := h
    have hl := DT.num_lt l h3
    have hr := DT.num_lt r h4
    have hs := selRank_lt s
    rw [h1, h2] at hs
    show (selRank s * cnt l.tree + l.num) * cnt r.tree + r.num < bin (l.tree.size + r.tree.size) l.tree.size * cnt l.tree * cnt r.tree
    exact two_lt (two_lt hs hl) hr
theorem two_div {a b n : Nat} (h : b < n) : (a * n + b) / n = a ∧ (a * n + b) % n = b := by
  constructor
  · rw [Nat.mul_comm, Nat.mul_add_div (by omega), Nat.div_eq_of_lt h, Nat.add_zero]
  · rw [Nat.mul_comm, Nat.mul_add_mod, Nat.mod_eq_of_lt h]
theorem DT.num_ex : ∀ (t : BT) (m : Nat), m < cnt t → ∃ d : DT, d.tree = t ∧ d.ok ∧ d.num = m
  | .nil, m, h => ⟨.nil, rfl, trivial, by
    have : m < 1 := h
    show 0 = m
    omega⟩
  | .node l r, m, h => by
    have h' : m < bin (l.size + r.size) l.size * cnt l * cnt r := h
    have pl := cnt_pos l
    have pr := cnt_pos r
    have b1 : m / cnt r < bin (l.size + r.size) l.size * cnt l := (Nat.div_lt_iff_lt_mul pr).mpr h'
    have b2 : m / cnt r / cnt l < bin (l.size + r.size) l.size := (Nat.div_lt_iff_lt_mul pl).mpr b1
    obtain ⟨s, s1, s2, s3⟩ := sel_ex _ _ _ b2
    obtain ⟨dl, l1, l2, l3⟩ := DT.num_ex l (m / cnt r % cnt l) (Nat.mod_lt _ pl)
    obtain ⟨dr, r1, r2, r3⟩ := DT.num_ex r (m % cnt r) (Nat.mod_lt _ pr)
    refine ⟨.node s dl dr, by show BT.node dl.tree dr.tree = _; rw [l1, r1], ⟨by rw [l1, r1]; exact s1, by rw [l1]; exact s2, l2, r2⟩, ?_⟩
    show (selRank s * cnt dl.tree + dl.num) * cnt dr.tree + dr.num = m
    rw [l1, r1, s3, l3, r3, Nat.div_add_mod', Nat.div_add_mod']
theorem DT.num_inj : ∀ d d' : DT, d.ok → d'.ok → d.tree = d'.tree → d.num = d'.num → d = d'
  | .nil, .nil, _, _, _, _ => rfl
  | .nil, .node _ _ _, _, _, h, _ => by cases h
  | .node _ _ _, .nil, _, _, h, _ => by cases h
  | .node s l r, .node s' l' r', o, o', h, e => by
    obtain ⟨h1, h2, h3, h4⟩ := o
    obtain ⟨h1', h2', h3', h4'⟩ := o'
    have ht : BT.node l.tree r.tree = BT.node l'.tree r'.tree := h
    injection ht with tl tr
    have e' : (selRank s * cnt l.tree + l.num) * cnt r.tree + r.num = (selRank s' * cnt l'.tree + l'.num) * cnt r'.tree + r'.num := e
    have b1 := DT.num_lt l h3
    have b2 := DT.num_lt r h4
    have b1' := DT.num_lt l' h3'
    have b2' := DT.num_lt r' h4'
    rw [← tl] at e' b1'
    rw [← tr] at e' b2'
    obtain ⟨x, y⟩ := two_inj b2 b2' e'
    obtain ⟨z, w⟩ := two_inj b1 b1' x
    rw [DT.num_inj l l' h3 h3' tl w, DT.num_inj r r' h4 h4' tr y, sel_inj s s' (by rw [h1, h1', tl, tr]) (by rw [h2, h2', tl]) z]
theorem DT.vals_len : ∀ (d : DT) (xs : List Int), d.ok → xs.length = d.tree.size → (d.vals xs).length = d.tree.size
  | .nil, xs, _, _ => rfl
  | .node s l r, [], _, h => by
    have : 0 = l.tree.size + 1 + r.tree.size := h
    omega
  | .node s l r, x :: xs, o, h => by
    obtain ⟨h1, h2, h3, h4⟩ := o
    have h' : xs.length + 1 = l.tree.size + 1 + r.tree.size := h
    obtain ⟨k1, k2⟩ := keep_len s xs (by omega)
    show (l.vals (keep true s xs) ++ x :: r.vals (keep false s xs)).length = l.tree.size + 1 + r.tree.size
    rw [List.length_append, List.length_cons, DT.vals_len l _ h3 (by omega), DT.vals_len r _ h4 (by omega)]
    omega
theorem DT.vals_perm : ∀ (d : DT) (xs : List Int), d.ok → xs.length = d.tree.size → (d.vals xs).Perm xs
  | .nil, xs, _, h => by
    rw [List.eq_nil_of_length_eq_zero h]
    exact List.Perm.refl _
  | .node s l r, [], _, h => by
    have : 0 = l.tree.size + 1 + r.tree.size := h
    omega
  | .node s l r, x :: xs, o, h => by
    obtain ⟨h1, h2, h3, h4⟩ := o
    have h' : xs.length + 1 = l.tree.size + 1 + r.tree.size := h
    obtain ⟨k1, k2⟩ := keep_len s xs (by omega)
    show (l.vals (keep true s xs) ++ x :: r.vals (keep false s xs)).Perm (x :: xs)
    exact List.perm_middle.trans ((((DT.vals_perm l _ h3 (by omega)).append (DT.vals_perm r _ h4 (by omega))).trans (keep_perm s xs (by omega))).cons x)
theorem DT.vals_cart : ∀ (d : DT) (xs : List Int) (f : Nat) (ns : List Int), d.ok → Up xs → xs.length = d.tree.size → (∀ i, i < d.tree.size → ns[f + i]? = (d.vals xs)[i]?) → IsCart ns f (f + d.tree.size) d.tree
  | .nil, _, f, _, _, _, _, _ => .nil f
  | .node s l r, [], _, _, _, _, h, _ => by
    have : 0 = l.tree.size + 1 + r.tree.size := h
    omega
  | .node s l r, x :: xs, f, ns, o, u, h, hn => by
    obtain ⟨h1, h2, h3, h4⟩ := o
    have h' : xs.length + 1 = l.tree.size + 1 + r.tree.size := h
    obtain ⟨k1, k2⟩ := keep_len s xs (by omega)
    have hs : (DT.node s l r).tree.size = l.tree.size + 1 + r.tree.size := rfl
    have el := DT.vals_len l _ h3 (show (keep true s xs).length = l.tree.size by omega)
    have er := DT.vals_len r _ h4 (show (keep false s xs).length = r.tree.size by omega)
    have hd : ∀ i, ((DT.node s l r).vals (x :: xs))[i]? = if i < l.tree.size then (l.vals (keep true s xs))[i]? else if i = l.tree.size then some x else (r.vals (keep false s xs))[i - l.tree.size - 1]? := fun i => by
      show (l.vals (keep true s xs) ++ x :: r.vals (keep false s xs))[i]? = _
      rw [node_get, el]
    have hl := DT.vals_cart l (keep true s xs) f ns h3 (u.tail.keep _ _) (by omega) fun i hi => by
      rw [hn i (by omega), hd, if_pos hi]
    have hr := DT.vals_cart r (keep false s xs) (f + l.tree.size + 1) ns h4 (u.tail.keep _ _) (by omega) fun i hi => by
      rw [show f + l.tree.size + 1 + i = f + (l.tree.size + 1 + i) by omega, hn _ (by omega), hd, if_neg (by omega), if_neg (by omega), show l.tree.size + 1 + i - l.tree.size - 1 = i by omega]
    rw [show f + l.tree.size + 1 + r.tree.size = f + (DT.node s l r).tree.size by omega] at hr
    have hv : ns[f + l.tree.size]? = some x := by
      rw [hn _ (by omega), hd, if_neg (by omega), if_pos rfl]
    refine cart_node hl hr hv fun k y k1' k2' k3 hk => ?_
    have e := hn (k - f) (by omega)
    rw [show f + (k - f) = k by omega, hk, hd] at e
    by_cases c : k - f < l.tree.size
    · rw [if_pos c] at e
      have hm := (DT.vals_perm l _ h3 (show (keep true s xs).length = l.tree.size by omega)).mem_iff.mp (List.mem_of_getElem? e.symm)
      exact u.head y ((keep_sub _ _ _).subset hm)
    · rw [if_neg c, if_neg (by omega)] at e
      have hm := (DT.vals_perm r _ h4 (show (keep false s xs).length = r.tree.size by omega)).mem_iff.mp (List.mem_of_getElem? e.symm)
      exact u.head y ((keep_sub _ _ _).subset hm)
/-- every order of upward things is one of its tree's -/
theorem DT.vals_ex {ns : List Int} {f b : Nat} {t : BT} (hC : IsCart ns f b t) : b ≤ ns.length → ∀ xs : List Int, Up xs → ((ns.drop f).take (b - f)).Perm xs → ∃ d : DT, d.tree = t ∧ d.ok ∧ d.vals xs = (ns.drop f).take (b - f) := by
  induction hC with
  | nil f =>
    intro _ xs _ _
    refine ⟨.nil, rfl, trivial, ?_⟩
    rw [Nat.sub_self, List.take_zero] <;> rfl
  | @node f b h m l r hm hl hr il ir =>
    intro hb xs u hp
    have g1 := hm.lo
    have g2 := hm.hi
    have hls := hl.size
    have hrs := hr.size
    have split : (ns.drop f).take (b - f) = (ns.drop f).take (h - f) ++ m :: (ns.drop (h + 1)).take (b - (h + 1)) := by
      have hv := hm.val
      have e1 : b - f = (h - f) + ((b - (h + 1)) + 1) := by omega
      rw [e1, List.take_add, List.drop_drop, show f + (h - f) = h by omega]
      have hlt : h < ns.length := by omega
      rw [List.drop_eq_getElem_cons hlt, List.take_succ_cons]
      have e2 : ns[h] = m := by
        rw [List.getElem?_eq_getElem hlt] at hv
        exact Option.some.inj hv
      rw [e2]
    generalize hL : (ns.drop f).take (h - f) = osL at *
    generalize hR : (ns.drop (h + 1)).take (b - (h + 1)) = osR at *
    have llen : osL.length = l.size := by
      rw [← hL, List.length_take, List.length_drop]
      omega
    have rlen : osR.length = r.size := by
      rw [← hR, List.length_take, List.length_drop]
      omega
    rw [split] at hp
    have hp2 : (m :: (osL ++ osR)).Perm xs := List.perm_middle.symm.trans hp
    cases xs with
    | nil => exact absurd hp2.length_eq (by simp)
    | cons x xs =>
      have nd : (m :: (osL ++ osR)).Nodup := hp2.symm.nodup u.nodup
      have ex : m = x := by
        have m1 : m ∈ x :: xs := hp2.mem_iff.mp (List.mem_cons_self ..)
        have x1 : x ∈ m :: (osL ++ osR) := hp2.mem_iff.mpr (List.mem_cons_self ..)
        rcases List.mem_cons.mp m1 with e | e
        · exact e
        · have a1 := u.head m e
          rcases List.mem_cons.mp x1 with z | z
          · exact z.symm
          · have : m ≤ x := by
              rcases List.mem_append.mp z with z | z
              · rw [← hL] at z
                obtain ⟨k, k1, k2, k3⟩ := mem_slice z
                exact hm.le k x k1 (by omega) k3
              · rw [← hR] at z
                obtain ⟨k, k1, k2, k3⟩ := mem_slice z
                exact hm.le k x (by omega) k2 k3
            omega
      subst ex
      have hp3 : (osL ++ osR).Perm xs := List.Perm.cons_inv hp2
      have nd2 : (osL ++ osR).Nodup := (List.nodup_cons.mp nd).2
      obtain ⟨ndL, ndR, dis⟩ := List.nodup_append.mp nd2
      have ux := u.tail
      have pT : (xs.filter fun x => decide (x ∈ osL)).Perm osL := (List.perm_ext_iff_of_nodup (List.Nodup.sublist List.filter_sublist ux.nodup) ndL).mpr fun y => by
        rw [List.mem_filter, decide_eq_true_iff]
        exact ⟨fun z => z.2, fun z => ⟨hp3.mem_iff.mp (List.mem_append_left _ z), z⟩⟩
      have pF : (xs.filter fun x => !decide (x ∈ osL)).Perm osR := (List.perm_ext_iff_of_nodup (List.Nodup.sublist List.filter_sublist ux.nodup) ndR).mpr fun y => by
        rw [List.mem_filter]
        constructor
        · rintro ⟨y1, y2⟩
          rcases List.mem_append.mp (hp3.mem_iff.mpr y1) with z | z
          · rw [decide_eq_true z] at y2
            cases y2
          · exact z
        · intro z
          refine ⟨hp3.mem_iff.mp (List.mem_append_right _ z), ?_⟩
          rw [decide_eq_false fun w => dis y w y z rfl] <;> rfl
      obtain ⟨km1, km2⟩ := keep_map (fun x => decide (x ∈ osL)) xs
      obtain ⟨dl, l1, l2, l3⟩ := il (by omega) (xs.filter fun x => decide (x ∈ osL)) (List.Pairwise.sublist List.filter_sublist ux) pT.symm
      obtain ⟨dr, r1, r2, r3⟩ := ir hb (xs.filter fun x => !decide (x ∈ osL)) (List.Pairwise.sublist List.filter_sublist ux) pF.symm
      refine ⟨.node (xs.map fun x => decide (x ∈ osL)) dl dr, by show BT.node dl.tree dr.tree = _; rw [l1, r1], ⟨?_, ?_, l2, r2⟩, ?_⟩
      · rw [List.length_map, ← hp3.length_eq, List.length_append, llen, rlen, l1, r1]
      · rw [ct_map, pT.length_eq, llen, l1]
      · show dl.vals (VT.keep true (xs.map fun x => decide (x ∈ osL)) xs) ++ m :: dr.vals (VT.keep false (xs.map fun x => decide (x ∈ osL)) xs) = _
        rw [km1, km2, l3, r3, split]
theorem up_nums (n : Nat) : Up (numsTo n) := by
  unfold Up numsTo natI
  rw [List.pairwise_map]
  exact List.Pairwise.imp (fun {a b} (h : a < b) => Int.ofNat_lt.mpr h) List.pairwise_lt_range
theorem vals_tree {d : DT} (hok : d.ok) : IsCart (d.vals (numsTo d.tree.size)) 0 (d.vals (numsTo d.tree.size)).length d.tree := by
  have hl := DT.vals_len d (numsTo d.tree.size) hok (numsTo_len _)
  have h := DT.vals_cart d (numsTo d.tree.size) 0 (d.vals (numsTo d.tree.size)) hok (up_nums _) (numsTo_len _) fun i _ => by rw [Nat.zero_add]
  rw [Nat.zero_add] at h
  rw [hl]
  exact h
end VT
/-! ### the orders of a tree, and the numbers of them -/
namespace VT
open PySem L2
theorem ins_filter {row : List Int} {k a : Nat} (hk : (k : Int) ∉ row) : (insAt row k a).filter (fun x => decide (x ≠ (k : Int))) = row := by
  have all : ∀ xs : List Int, (∀ x ∈ xs, x ∈ row) → xs.filter (fun x => decide (x ≠ (k : Int))) = xs := fun xs h => List.filter_eq_self.mpr fun x hx => decide_eq_true fun e => hk (e ▸ h x hx)
  unfold insAt
  rw [List.filter_append, List.filter_append, all _ fun x hx => List.mem_of_mem_take hx, all _ fun x hx => List.mem_of_mem_drop hx, List.filter_cons, if_neg (by simp), List.filter_nil, List.append_nil, List.take_append_drop]
theorem ins_at {row : List Int} {k a : Nat} (ha : a ≤ row.length) : (insAt row k a)[a]? = some (k : Int) := by
  unfold insAt
  rw [List.append_assoc, List.getElem?_append_right (by rw [List.length_take]; omega), List.length_take, Nat.min_eq_left ha, Nat.sub_self]
  rfl
theorem ins_before {row : List Int} {k a b : Nat} (ha : a ≤ row.length) (hb : b < a) : (insAt row k a)[b]? = row[b]? := by
  unfold insAt
  rw [List.append_assoc, List.getElem?_append_left (by rw [List.length_take]; omega), List.getElem?_take, if_pos hb]
theorem ins_inj {row : List Int} {k a b : Nat} (hk : (k : Int) ∉ row) (ha : a ≤ row.length) (hb : b ≤ row.length) (e : insAt row k a = insAt row k b) : a = b := by
  rcases Nat.lt_trichotomy a b with c | c | c
  · have h1 := ins_at (k := k) ha
    rw [e, ins_before hb c] at h1
    exact absurd (List.mem_of_getElem? h1) hk
  · exact c
  · have h1 := ins_at (k := k) hb
    rw [← e, ins_before ha c] at h1
    exact absurd (List.mem_of_getElem? h1) hk
theorem not_in {n : Nat} {row : List Int} (h : row ∈ ordersL n) : (n : Int) ∉ row := fun z => by
  have := (mem_perm n row h).mem_iff.mp z
  unfold numsTo natI at this
  obtain ⟨m, hm, e⟩ := List.mem_map.mp this
  have := List.mem_range.mp hm
  have : (m : Int) = (n : Int) := e
  omega
theorem orders_nodup : ∀ n : Nat, (ordersL n).Nodup
  | 0 => by
    show ([[]] : List (List Int)).Nodup
    exact List.nodup_cons.mpr ⟨by simp, List.nodup_nil⟩
  | n + 1 => by
    have ih := orders_nodup n
    show (longTo (ordersL n) n (ordersL n).length).Nodup
    unfold longTo
    rw [List.take_length]
    refine List.pairwise_flatMap.mpr ⟨fun row hr => ?_, ?_⟩
    · unfold rowsAt
      have hl := order_len hr
      rw [List.pairwise_map]
      refine List.Pairwise.imp_of_mem (fun {a b} ha hb hne e => hne (ins_inj (not_in hr) (by have := List.mem_range.mp ha; omega) (by have := List.mem_range.mp hb; omega) e)) (List.nodup_range (n := n + 1))
    · refine List.Pairwise.imp_of_mem (fun {r r'} hr hr' hne x hx y hy e => ?_) ih
      obtain ⟨a, _, rfl⟩ := List.mem_map.mp hx
      obtain ⟨b, _, rfl⟩ := List.mem_map.mp hy
      have h1 := ins_filter (a := a) (not_in hr)
      have h2 := ins_filter (a := b) (not_in hr')
      rw [e, h2] at h1
      exact hne h1.symm
theorem DT.vals_inj : ∀ (d d' : DT) (xs : List Int), d.ok → d'.ok → d.tree = d'.tree → Up xs → xs.length = d.tree.size → d.vals xs = d'.vals xs → d = d'
  | .nil, .nil, _, _, _, _, _, _, _ => rfl
  | .nil, .node _ _ _, _, _, _, h, _, _, _ => by cases h
  | .node _ _ _, .nil, _, _, _, h, _, _, _ => by cases h
  | .node s l r, .node s' l' r', [], _, _, _, _, h, _ => by
    have : 0 = l.tree.size + 1 + r.tree.size := h
    omega
  | .node s l r, .node s' l' r', x :: xs, o, o', ht, u, hx, e => by
    obtain ⟨h1, h2, h3, h4⟩ := o
    obtain ⟨h1', h2', h3', h4'⟩ := o'
    have ht' : BT.node l.tree r.tree = BT.node l'.tree r'.tree := ht
    injection ht' with tl tr
    have hx' : xs.length + 1 = l.tree.size + 1 + r.tree.size := hx
    rw [← tl, ← tr] at h1'
    rw [← tl] at h2'
    obtain ⟨k1, k2⟩ := keep_len s xs (by omega)
    obtain ⟨k1', k2'⟩ := keep_len s' xs (by omega)
    have vl := DT.vals_len l (keep true s xs) h3 (by omega)
    have vl' := DT.vals_len l' (keep true s' xs) h3' (by rw [← tl]; omega)
    rw [← tl] at vl'
    have e' : l.vals (keep true s xs) ++ x :: r.vals (keep false s xs) = l'.vals (keep true s' xs) ++ x :: r'.vals (keep false s' xs) := e
    obtain ⟨e1, e2⟩ := List.append_inj e' (by rw [vl, vl'])
    injection e2 with _ e3
    have p1 := DT.vals_perm l (keep true s xs) h3 (by omega)
    have p2 := DT.vals_perm l' (keep true s' xs) h3' (by rw [← tl]; omega)
    have m1 := keep_mask u.tail s (by omega) _ p1
    have m2 := keep_mask u.tail s' (by omega) _ p2
    rw [← e1, m1] at m2
    subst m2
    rw [DT.vals_inj l l' _ h3 h3' tl (u.tail.keep _ _) (by omega) e1, DT.vals_inj r r' _ h4 h4' tr (u.tail.keep _ _) (by omega) e3]
noncomputable def dOf (t : BT) (m : Nat) : DT := if h : m < cnt t then (DT.num_ex t m h).choose else .nil
theorem dOf_spec {t : BT} {m : Nat} (h : m < cnt t) : (dOf t m).tree = t ∧ (dOf t m).ok ∧ (dOf t m).num = m := by
  unfold dOf
  rw [dif_pos h]
  exact (DT.num_ex t m h).choose_spec
noncomputable def rowOf (t : BT) (m : Nat) : List Int := (dOf t m).vals (numsTo t.size)
noncomputable def told (t : BT) (m : Nat) : List (List Int) := (List.range m).map (rowOf t)
theorem told_more (t : BT) (m : Nat) : told t (m + 1) = told t m ++ [rowOf t m] := by
  unfold told
  rw [List.range_succ, List.map_append]
  rfl
noncomputable def goodR (xs : List V) (row : List Int) : Bool := @decide (HasTree row xs) (Classical.propDecidable _)
theorem goodR_iff {xs : List V} {row : List Int} : goodR xs row = true ↔ HasTree row xs := by
  unfold goodR
  exact @decide_eq_true_iff _ (Classical.propDecidable _)
theorem goodR_cart {xs : List V} {row : List Int} {t : BT} (hC : IsCart row 0 row.length t) : goodR xs row = decide (t.codeV 0 none = xs) := by
  by_cases c : t.codeV 0 none = xs
  · rw [decide_eq_true c]
    exact goodR_iff.mpr ((hasTree_iff hC).mpr c)
  · rw [decide_eq_false c]
    exact Bool.eq_false_iff.mpr fun z => c ((hasTree_iff hC).mp (goodR_iff.mp z))
theorem codeV_inj {t u : BT} (h : t.codeV 0 none = u.codeV 0 none) : t = u := by
  obtain ⟨v, h1, h2, h3⟩ := isTree_deep ⟨t, rfl⟩
  obtain ⟨w, g1, g2, g3⟩ := isTree_deep ⟨u, rfl⟩
  have key : ∀ a b : BT, a.codeV 0 none = b.codeV 0 none → a = b := fun a b e => by
    have la := depthsTo_tree a a.size (Nat.le_refl _)
    have lb := depthsTo_tree b b.size (Nat.le_refl _)
    have hs : a.size = b.size := by
      have := congrArg List.length e
      rw [BT.codeV_len, BT.codeV_len] at this
      exact this
    rw [e, hs, lb] at la
    have ed := Option.some.inj la
    rw [List.take_of_length_le (by rw [BT.deep_len]; exact Nat.le_refl _), List.take_of_length_le (by rw [BT.deep_len]; omega)] at ed
    have ca := a.deepI_cart
    have cb := b.deepI_cart
    unfold BT.deepI at ca cb
    rw [← ed] at ca
    exact ca.uniq cb
  exact key t u h
theorem told_perm (t : BT) : (told t (cnt t)).Perm ((ordersL t.size).filter (goodR (t.codeV 0 none))) := by
  have nl := numsTo_len t.size
  have spec : ∀ m, m < cnt t → (rowOf t m).Perm (numsTo t.size) ∧ IsCart (rowOf t m) 0 (rowOf t m).length t := fun m hm => by
    obtain ⟨h1, h2, h3⟩ := dOf_spec hm
    unfold rowOf
    have a := DT.vals_perm (dOf t m) (numsTo t.size) h2 (by rw [h1]; exact nl)
    have b := vals_tree h2
    rw [h1] at b
    exact ⟨a, b⟩
  refine (List.perm_ext_iff_of_nodup ?_ (List.Nodup.sublist List.filter_sublist (orders_nodup _))).mpr fun row => ?_
  · unfold told
    refine List.pairwise_map.mpr (List.Pairwise.imp_of_mem (fun {a b} ha hb hne e => hne ?_) (List.nodup_range (n := cnt t)))
    obtain ⟨a1, a2, a3⟩ := dOf_spec (List.mem_range.mp ha)
    obtain ⟨b1, b2, b3⟩ := dOf_spec (List.mem_range.mp hb)
    have := DT.vals_inj (dOf t a) (dOf t b) (numsTo t.size) a2 b2 (by rw [a1, b1]) (up_nums _) (by rw [a1]; exact nl) e
    rw [← a3, ← b3, this]
  · rw [List.mem_filter, goodR_iff]
    constructor
    · intro h
      obtain ⟨m, hm, rfl⟩ := List.mem_map.mp h
      obtain ⟨p, c⟩ := spec m (List.mem_range.mp hm)
      exact ⟨perm_mem _ _ p, t, c, rfl⟩
    · rintro ⟨h1, u, h2, h3⟩
      obtain rfl := codeV_inj h3
      have hl := order_len h1
      obtain ⟨d, d1, d2, d3⟩ := DT.vals_ex h2 (Nat.le_refl _) (numsTo u.size) (up_nums _) (by rw [List.drop_zero, Nat.sub_zero, List.take_length]; exact mem_perm _ _ h1)
      rw [List.drop_zero, Nat.sub_zero, List.take_length] at d3
      have hn := DT.num_lt d d2
      rw [d1] at hn
      obtain ⟨e1, e2, e3⟩ := dOf_spec hn
      have := DT.num_inj _ _ e2 d2 (by rw [e1, d1]) e3
      refine List.mem_map.mpr ⟨d.num, List.mem_range.mpr hn, ?_⟩
      unfold rowOf
      rw [this]
      exact d3
end VT
/-! ### calls that may raise -/
namespace VT
open PySem PySem.Spec PyProof.Rows L2
/-- a def that may raise, by its name -/
structure CalX (P : Program) (w : World) (K : PySem.W.Frag) (mg : Str → Option Value) (base : Heap) (k : Nat) (x : Str) (sp : Sp) : Prop where
  is : ∃ (g : Addr) (gd : FuncData) (qs : List Str), FnOk P w K mg base (L2.CX P w) k g gd qs sp ∧ mg x = some (.ref g) ∧ PySem.W.keepIn K (.ref g) = true ∧ Binds K gd qs []
section
variable {X : Cx} {k j : Nat} {x : Str} {sp : Sp} {p pos : Pos} {e : Expr} {es : List Expr} {t : TA} {W : WX}
theorem pe_cX (c : CalX X.prog X.w X.K X.mg X.base k x sp) (room : Room j X.A) (hk : k ≤ j) (hg : Gl X x) (tk : Takes X W) (ha : PA X (e :: es) t)
    (h1 : (x == ("__debug__" : Str)) = false := by decide) (h2 : starEach (e :: es) X.env = (false, eval e X.env) :: starEach es X.env := by rfl) (h3 : (backTo pos (starEach es X.env)).any (·.1) = false := by rfl) :
    PE X (.Call (.Name x p) (e :: es) [] pos) (tCallS sp (WE W) t) := by
  obtain ⟨g, gd, qs, G, m, kp, b⟩ := c.is
  exact pe_callS G (room.mono hk) hg m kp b (fun σ => passAt tk σ) ha h1 h2 h3
end
section
variable {σ : L2.St} {H : Hp} {Q : VK} {ta : TE} {t : TS} {nx bk ct : L2.St → Hp → Prop} {rt : VK}
theorem r_callS {tr : TA} {sp : Sp} {E : L2.St → XK} (h : tr σ H fun vs H1 => sp vs H1 Q (E σ)) : tCallS sp E tr σ H Q := h
theorem exm_mk {K : PySem.W.Frag} {S U : Addr} (h1 : PySem.W.subIn K (.ref U) (.type "BaseException") = some true) (h2 : PySem.W.isClsIn K U = true) (h3 : PySem.W.typeIn K (.ref U) = some (.type "type")) {b : Bool} (h4 : PySem.W.subIn K (.ref S) (.ref U) = some b) :
    PySem.W.exmOne K (.ref S) (.ref U) = some b := by
  have h2' : (PySem.W.clsIn K U).isSome = true := h2
  have e1 : (PySem.W.subIn K (.ref U) (.type "BaseException") == some true) = true := by
    rw [h1]
    rfl
  have e2 : ((PySem.W.clsIn K U).isSome && PySem.W.typeIn K (.ref U) == some (.type "type")) = true := by
    rw [h2', h3]
    rfl
  show (if _ = true then (if _ = true then PySem.W.subIn K (.ref S) (.ref U) else none) else none) = some b
  rw [if_pos e1, if_pos e2]
  exact h4
end
end VT
/-! ### lists that are no trees, rows that are no order of a tree -/
namespace VT
open L2
def treesF : Nat → Nat → List BT
  | _, 0 => [.nil]
  | 0, _ + 1 => []
  | f + 1, n + 1 => (List.range (n + 1)).flatMap fun h => (treesF f h).flatMap fun l => (treesF f (n - h)).map fun r => .node l r
theorem mem_treesF : ∀ (t : BT) (f : Nat), t.size ≤ f → t ∈ treesF f t.size
  | .nil, 0, _ => List.mem_singleton.mpr rfl
  | .nil, _ + 1, _ => List.mem_singleton.mpr rfl
  | .node l r, 0, h => absurd h (by show ¬ l.size + 1 + r.size ≤ 0; omega)
  | .node l r, f + 1, h => by
    have h' : l.size + 1 + r.size ≤ f + 1 := h
    have hs : (BT.node l r).size = (l.size + r.size) + 1 := by
      show l.size + 1 + r.size = _
      omega
    rw [hs]
    refine List.mem_flatMap.mpr ⟨l.size, List.mem_range.mpr (by omega), List.mem_flatMap.mpr ⟨l, mem_treesF l f (by omega), List.mem_map.mpr ⟨r, ?_, rfl⟩⟩⟩
    rw [show l.size + r.size - l.size = r.size by omega]
    exact mem_treesF r f (by omega)
def unV : V → Option Int
  | .int i => some i
  | _ => none
def codeU (t : BT) : List (Option Int) := (t.code 0 none).map fun x => x.map fun (n : Nat) => (n : Int)
theorem codeU_eq (t : BT) : (t.codeV 0 none).map unV = codeU t := by
  unfold BT.codeV codeU
  rw [List.map_map]
  refine List.map_congr_left fun x _ => ?_
  cases x <;> rfl
def isT (us : List (Option Int)) : Bool := (treesF us.length us.length).any fun t => codeU t == us
theorem isT_of {xs : List V} (h : IsTree xs) : isT (xs.map unV) = true := by
  obtain ⟨t, rfl⟩ := h
  unfold isT
  rw [List.length_map, BT.codeV_len, codeU_eq]
  exact List.any_eq_true.mpr ⟨t, mem_treesF t _ (Nat.le_refl _), beq_self_eq_true _⟩
/-- a list of numbers and None that is no tree -/
structure BadTree (xs : List V) : Prop where
  ok : xs.all okV = true
  len : xs.length ≤ 40
  no : ¬ (1 ≤ xs.length ∧ xs.length ≤ 40 ∧ IsTree xs)
theorem bad_nil : BadTree [] := ⟨rfl, by decide, fun z => absurd z.1 (by decide)⟩
theorem bad_of {xs : List V} (ok : xs.all okV = true) (len : xs.length ≤ 40) (h : isT (xs.map unV) = false) : BadTree xs := ⟨ok, len, fun z => by
  rw [isT_of z.2.2] at h
  cases h⟩
def t0 : BT := .node (.node .nil .nil) (.node .nil .nil)
/-- a row that is no order of the tree t0 -/
structure BadOrd (os : List Int) : Prop where
  len : os.length ≤ 40
  no : 1 ≤ os.length → os.Perm (numsTo os.length) → ∀ u, IsCart os 0 os.length u → u ≠ t0
theorem bad_len {os : List Int} (h : os.length ≤ 40) (h3 : os.length ≠ 3) : BadOrd os := ⟨h, fun _ _ u hu e => by
  have hs := hu.size
  rw [e] at hs
  have : t0.size = 3 := rfl
  omega⟩
theorem bad_perm {os : List Int} {x : Int} (h : os.length = 3) (hx : x ∈ os) (hn : x ≠ 0 ∧ x ≠ 1 ∧ x ≠ 2) : BadOrd os := ⟨by omega, fun _ p u _ _ => by
  rw [h] at p
  have m : x ∈ numsTo 3 := p.mem_iff.mp hx
  have m' : x ∈ [(0 : Int), 1, 2] := m
  simp only [List.mem_cons, List.not_mem_nil, or_false] at m'
  omega⟩
theorem bad_twice {os : List Int} (h : os.length = 3) (hn : ¬ os.Nodup) : BadOrd os := ⟨by omega, fun _ p u _ _ => by
  rw [h] at p
  have d : (numsTo 3).Nodup := by decide
  exact hn (p.nodup_iff.mpr d)⟩
theorem bad_head {os : List Int} {x y : Int} {k : Nat} (h : os.length = 3) (h1 : os[1]? = some x) (hk : k < 3) (h2 : os[k]? = some y) (hl : y < x) : BadOrd os := ⟨by omega, fun _ _ u hu e => by
  rw [e, h] at hu
  unfold t0 at hu
  cases hu with
  | node hm hl' hr =>
    have hs := hl'.size
    have e1 : (BT.node .nil .nil).size = 1 := rfl
    rw [e1] at hs
    have hv := hm.val
    rw [← hs] at hv
    have e2 := hv.symm.trans h1
    have := Option.some.inj e2
    have := hm.le k y (Nat.zero_le _) hk h2
    omega⟩
end VT
/-! ### methods and makes that may raise; a def that is handed the caught exception -/
namespace VT
open PySem PySem.Spec PyProof.Rows L2
structure MetX (P : Program) (w : World) (K : PySem.W.Frag) (mg : Str → Option Value) (base : Heap) (k : Nat) (C : Addr) (m : Str) (sp : Sp) : Prop where
  is : ∃ (g : Addr) (gd : FuncData) (qs : List Str), Cls K C ∧ Meth K C m g ∧ FnOk P w K mg base (L2.CX P w) k g gd qs sp ∧ Binds K gd qs []
structure MakX (P : Program) (w : World) (K : PySem.W.Frag) (mg : Str → Option Value) (base : Heap) (k : Nat) (x : Str) (C : Addr) (sp : Sp) : Prop where
  is : ∃ (g : Addr) (gd : FuncData) (qs : List Str), Mk K C g ∧ FnOk P w K mg base (L2.CX P w) k g gd qs sp ∧ mg x = some (.ref C) ∧ Binds K gd qs []
theorem fnOk_or {P : Program} {w : World} {K : PySem.W.Frag} {mg : Str → Option Value} {base : Heap} {CX : CXT} {k : Nat} {f : Addr} {fd : FuncData} {ps : List Str} {sp sp' : Sp} (F : FnOk P w K mg base CX k f fd ps sp) (G : FnOk P w K mg base CX k f fd ps sp') : FnOk P w K mg base CX k f fd ps (fun vs H Q E => sp vs H Q E ∨ sp' vs H Q E) :=
  ⟨fun vs H Q E h => h.elim (F.len vs H Q E) (G.len vs H Q E), fun A outer s H args us vs Q E c1 c2 c3 c4 h => h.elim (F.run A outer s H args us vs Q E c1 c2 c3 c4) (G.run A outer s H args us vs Q E c1 c2 c3 c4)⟩
section
variable {X : Cx} {k j : Nat} {C : Addr} {x m : Str} {sp : Sp} {E : XK} {p pos apos : Pos} {e o : Expr} {es : List Expr} {ta : TE} {t : TA}
theorem pe_mX {pl : Sem Bool} (c : MetX X.prog X.w X.K X.mg X.base k C m sp) (room : Room j X.A) (hk : k ≤ j) (go : Passes (L2.CX X.prog X.w) X E) (ho : PE X o ta) (ha : PA X (e :: es) t)
    (h1 : starEach (e :: es) X.env = (false, eval e X.env) :: starEach es X.env := by rfl) (h2 : (backTo pos (starEach es X.env)).any (·.1) = false := by rfl)
    (h3 : eval (.Call (.Attribute o m apos) (e :: es) [] pos) X.env = (do let ov ← eval o X.env; standAt apos.atName; let (f, first) ← holding [ov] (getMethod ov m pl); callWith pos f first (backTo pos (starEach (e :: es) X.env)) (backToKw pos (keywordEach [] X.env))) := by rfl) :
    PE X (.Call (.Attribute o m apos) (e :: es) [] pos) (tMeth C m sp [] E ta t) := by
  obtain ⟨g, gd, qs, c1, c2, G, b⟩ := c.is
  exact pe_meth (pl := pl) ho c1 c2 G (room.mono hk) b .nil go ha h1 h2 h3
theorem pe_kX (c : MakX X.prog X.w X.K X.mg X.base k x C sp) (room : Room j X.A) (hk : k + 1 ≤ j) (hg : Gl X x) (go : Passes (L2.CX X.prog X.w) X E) (ha : PA X (e :: es) t)
    (h1 : (x == ("__debug__" : Str)) = false := by decide) (h2 : starEach (e :: es) X.env = (false, eval e X.env) :: starEach es X.env := by rfl) (h3 : (backTo pos (starEach es X.env)).any (·.1) = false := by rfl) :
    PE X (.Call (.Name x p) (e :: es) [] pos) (tMake C sp [] E t) := by
  obtain ⟨g, gd, qs, M, G, m, b⟩ := c.is
  exact pe_make M G (room.mono hk) hg m b .nil go ha h1 h2 h3
end
/-! ### a def called in the except suite, the exception among its arguments -/
structure FnP (P : Program) (w : World) (K : PySem.W.Frag) (mg : Str → Option Value) (base : Heap) (k : Nat) (f : Addr) (fd : FuncData) (ps : List Str) (sp : Addr → Value → Option Addr → Sp) : Prop where
  len : ∀ a c d vs H Q E, sp a c d vs H Q E → vs.length = ps.length
  run : ∀ (q : Addr × Obj) (c : Value) (d : Option Addr) (A : Around) (outer : List Env) (s : Shared) (H : Hp) (args : Args) (us : List Value) (vs : List V) (Q : VK) (E : XK), Zc c d q.2 → (∃ fs, q.2.data = .fields fs) → L2H.RoomH k A → L2H.PinOk outer H s q →
    Env0 P w K mg base A outer s H → BindsTo s fd args (ps.zip us) → Vals vs us → sp q.1 c d vs H Q E → codeAny (model P w) A (.call (.ref f) args) (CR L2.CX0 outer P w H s Q E) s
section
variable {P : Program} {w : World} {K : PySem.W.Frag} {mg : Str → Option Value} {base : Heap}
theorem okP {x qual : Str} {st : Stmt} {f : Addr} {fd : FuncData} {N ps : List Str} {k : Nat} {sp : Addr → Value → Option Addr → Sp} (F : L2.Fun K x qual st f fd) (S : FnScope N ps (defScope st)) (len : ∀ a c d vs H Q E, sp a c d vs H Q E → vs.length = ps.length)
    (go : ∀ (cdv : Value) (q : Addr × Obj) (c : Value) (d : Option Addr) (A : Around) (outer : List Env) (s : Shared) (H : Hp) (vs : List V) (Q : VK) (E : XK), Zc c d q.2 → (∃ fs, q.2.data = .fields fs) → sp q.1 c d vs H Q E →
      ∃ t, PSs (L2H.cxH L2.CX0 P w K mg base N qual (defScope st) f cdv A outer s H E q) (defBody st) t ∧ t { nx := fun _ H' => Q .non H', rt := Q } (L2.start N vs) H) : FnP P w K mg base (k + 1) f fd ps sp := by
  obtain ⟨oc, od, kV, doc, pm, an, cdv, ct, osl, rfl, lk, code⟩ := F.ex
  refine ⟨len, fun q c d A outer s H args us vs Q E zc fl room pin env bind vals h => ?_⟩
  have inK : K.In s.heap := env.mod.kin.keeps fun b ob eb => (env.bs b ob eb).1
  have noL : s.heap.NoLimit := env.mod.nolimit.keeps fun b ob eb => (env.bs b ob eb).1
  have kinds : ∀ z ∈ ps.zip us, (defScope st).names.lookup z.1 = some .local ∨ ((defScope st).names.lookup z.1 = some .cell ∧ ((cellsFrom (s.heap.objs.size + 1) (defScope st).names []).lookup z.1).isSome = true) := by
    rintro ⟨n, v⟩ hz
    rcases S.par n (List.of_mem_zip hz).1 with y | y
    · exact .inl y
    · exact .inr ⟨y, PySem.W.cellsFrom_some _ _ _ (.inl y)⟩
  refine codeAny_call_function room.depth (inK _ _ lk) rfl S.co S.gen rfl (PySem.W.codeRec_of inK code) (bind _ _ _ _ ?_)
  refine wpAny_newFunctionEnv_cells S.kind kinds fun en hen s1 y => ?_
  subst hen
  refine ⟨noL.keeps y.toInCall.keep, codeAny_func ?_⟩
  obtain ⟨t, T1, T2⟩ := go cdv q c d A outer s H vs Q E zc fl h
  have I := L2H.inv_startH (CX := L2.CX0) (P := P) (w := w) (K := K) (mg := mg) (base := base) (f := f) (cd := cdv) (E := E) S pin env (len _ _ _ _ _ _ _ h) vals y
  refine wpAny_mono (T1.run [] s1 (L2.start N vs) H _ I T2) (fun fl s' hs => ?_) fun _ _ hs => hs
  cases fl with
  | next =>
    obtain ⟨σ', H', J, y⟩ := hs
    exact ⟨V.non, H', J.os, J.bare, J.base, J.hok, rfl, y⟩
  | ret u =>
    obtain ⟨v, σ', H', J, rv, y⟩ := hs
    exact ⟨v, H', J.os, J.bare, J.base, J.hok, rv, y⟩
  | brk => exact hs.elim fun _ z => z.elim fun _ z => z.2.elim
  | cont => exact hs.elim fun _ z => z.elim fun _ z => z.2.elim
end
/-- such a def, by its name -/
structure CalP (P : Program) (w : World) (K : PySem.W.Frag) (mg : Str → Option Value) (base : Heap) (k : Nat) (x : Str) (sp : Addr → Value → Option Addr → Sp) : Prop where
  is : ∃ (g : Addr) (gd : FuncData) (qs : List Str), FnP P w K mg base k g gd qs sp ∧ mg x = some (.ref g) ∧ PySem.W.keepIn K (.ref g) = true ∧ Binds K gd qs []
section
variable {X : Cx} {a : Addr} {oe : Obj} {pn : List (Addr × Obj)} {cls : Value} {d : Option Addr} {k j : Nat} {x : Str} {sp : Addr → Value → Option Addr → Sp} {E : XK} {p pos : Pos} {e : Expr} {es : List Expr} {t : TA}
theorem pe_cP (c : CalP X.prog X.w X.K X.mg X.base k x sp) (room : Room j X.A) (hk : k ≤ j) (hg : Gl (X.suite a ((a, oe) :: pn)) x) (zc : Zc cls d oe) (fl : ∃ fs, oe.data = .fields fs) (ha : PA (X.suite a ((a, oe) :: pn)) (e :: es) t)
    (h1 : (x == ("__debug__" : Str)) = false := by decide) (h2 : starEach (e :: es) (X.suite a ((a, oe) :: pn)).env = (false, eval e (X.suite a ((a, oe) :: pn)).env) :: starEach es (X.suite a ((a, oe) :: pn)).env := by rfl)
    (h3 : (backTo pos (starEach es (X.suite a ((a, oe) :: pn)).env)).any (·.1) = false := by rfl) : PE (X.suite a ((a, oe) :: pn)) (.Call (.Name x p) (e :: es) [] pos) (tCall (sp a cls d) [] E t) := by
  obtain ⟨g, gd, qs, G, m, kp, b⟩ := c.is
  refine ⟨fun pins s σ H Q I h => wpAny_Call_Name_kw (ld_glob I hg m ?_ h1)⟩
  refine PySem.W.callWith_K (h₀ := X.base) I.ok.mod.kin kp (thn (ha.run pos pins s σ H _ I h) fun us s1 ⟨vs, H1, I1, r, y⟩ => ⟨I1.kIn, ?_⟩) h2 h3
  replace y : sp a cls d (vs ++ []) H1 Q E := y
  rw [List.append_nil] at y
  have hl : us.length = qs.length := by
    rw [← r.length]
    exact G.len _ _ _ _ _ _ _ y
  have bd := b s1 us I1.kIn (by rw [List.append_nil]; exact hl)
  rw [List.append_nil] at bd
  have pn1 := I1.pin (a, oe) (List.mem_append_left _ List.mem_cons_self)
  have room2 : L2H.RoomH k (X.suite a ((a, oe) :: pn)).A := ⟨(room.mono hk).dp, (room.mono hk).un⟩
  have pin : L2H.PinOk (X.suite a ((a, oe) :: pn)).stack H1 s1 (a, oe) := ⟨pn1.1, pn1.2.1, fun z => (List.mem_cons.mp (I1.stkSub a z)).elim pn1.2.2.1 pn1.2.2.2.1, pn1.2.2.2.2⟩
  refine wpAny_call (codeAny_mono (G.run (a, oe) cls d _ _ s1 H1 ⟨us, []⟩ us vs Q E zc fl room2 pin I1.env0 bd r y) fun r' s' hq => ?_)
  cases r' with
  | error e => exact hq.elim
  | ok fl' =>
    cases fl' with
    | ret u => exact I1.after hq
    | next => exact hq.elim
    | brk => exact hq.elim
    | cont => exact hq.elim
end
/-- isinstance(e, c), e's object being at hand -/
theorem call_isP {X : Cx} {D : Addr} {q : Addr × Obj} (hq : q ∈ X.pn) (C : ExcC X.K D) (zc : Zc (.ref D) none q.2) (fl : ∃ fs, q.2.data = .fields fs) : CallR X (.builtin "isinstance") (rIsE X.K D q.1) := by
  intro pins s σ H xs us Q I r h
  obtain ⟨c, cv, b, rfl, hcv, ek, y⟩ := h
  obtain ⟨u1, u2, rfl, r1, r2⟩ := vals2 r
  cases r1
  obtain rfl := hcv _ r2
  have hget := (I.pin q (List.mem_append_left _ hq)).1
  have J : PySem.W.InstAt s.heap q.1 q.2 D none := by
    obtain ⟨ad, ⟨oc, od, oda, osl⟩⟩ := q
    obtain ⟨fs, hv⟩ := fl
    obtain ⟨z1, z2⟩ := zc
    dsimp only at z1 z2 hv
    subst z1 z2 hv
    exact ⟨hget, rfl, rfl, trivial⟩
  exact PySem.W.kia_one (PySem.W.handS_kitx_exc C.hg C.hk C.hs C.hd C.ha C.hn C.ht C.hm) I.kIn J ek (fun z => nomatch z) fun tk => ⟨.bl b, H, I.kept (t' := tk) fun _ _ z => z, rfl, y⟩
theorem r_isE {K : PySem.W.Frag} {D a : Addr} {c : V} {cv : Value} {b : Bool} {H : Hp} {Q : VK} (hcv : ∀ u, RelV c u → u = cv) (ek : PySem.W.kitOne K (.ref D) cv = some b) (q : Q (.bl b) H) : rIsE K D a [.ref a, c] H Q := ⟨c, cv, b, rfl, hcv, ek, q⟩
/-- lists of truth values -/
theorem dp_bools {K : PySem.W.Frag} {H : Hp} : ∀ bs : List Bool, DpAll K H (bs.map V.bl) (bs.map PyData.bool)
  | [] => .nil
  | b :: bs => .cons (.bl b) (dp_bools bs)
theorem lay_bools : ∀ bs : List Bool, PyData.canLayAll0 (bs.map PyData.bool) = true ∧ PyData.depthAll (bs.map PyData.bool) = 0
  | [] => ⟨rfl, rfl⟩
  | b :: bs => by
    have ih := lay_bools bs
    exact ⟨by show (true && PyData.canLayAll0 (bs.map PyData.bool)) = true; rw [ih.1] <;> rfl, by show max 0 (PyData.depthAll (bs.map PyData.bool)) = 0; rw [ih.2] <;> rfl⟩
theorem eqv_bools : ∀ bs : List Bool, PyData.eqvAll (bs.map PyData.bool) (bs.map PyData.bool) = true
  | [] => rfl
  | b :: bs => by
    show (PyData.eqv (.bool b) (.bool b) && PyData.eqvAll (bs.map PyData.bool) (bs.map PyData.bool)) = true
    rw [eqv_bools bs]
    cases b <;> rfl
theorem shaped_bools (bs : List Bool) : SeqAt.shaped (.list (bs.map PyData.bool)) = true := by
  obtain ⟨a, b⟩ := lay_bools bs
  show (PyData.canLayAll0 (bs.map PyData.bool) && decide (PyData.depthAll (bs.map PyData.bool) + 1 ≤ 64)) = true
  rw [a, b]
  rfl
theorem r_eqBools {K : PySem.W.Frag} {H : Hp} {Q : VK} {a b : Addr} {bs : List Bool} (h : SqL K H a (bs.map V.bl)) (h' : SqL K H b (bs.map V.bl)) (q : Q (.bl true) H) : rEqD K (.ref a) (.ref b) H Q :=
  ⟨_, _, .lst h (dp_bools bs), .lst h' (dp_bools bs), shaped_bools bs, shaped_bools bs, by
    show Q (.bl (PyData.eqvAll (bs.map PyData.bool) (bs.map PyData.bool))) H
    rw [eqv_bools]
    exact q⟩
/-- a list of two repeated -/
theorem r_rep2 {l : Addr} {k : Int} {x y : V} {H : Hp} {Q : VK} (h : H l = some (.lst [x, y])) (h0 : -1000000 ≤ k) (h1 : k ≤ 400000) (q : ∀ p H', H p = none → Same H H' → H' p = some (.lst (List.replicate k.toNat [x, y]).flatten) → Q (.ref p) H') : rRep (.ref l) (.int k) H Q :=
  ⟨l, k, [x, y], rfl, rfl, h, by omega, by omega, sz (by show 2 * k.toNat ≤ 1000000; omega), fun p np => q p _ np (same_new np _) upd_same⟩
theorem r_rep1 {l : Addr} {k : Int} {x : V} {H : Hp} {Q : VK} (h : H l = some (.lst [x])) (h0 : -1000000 ≤ k) (h1 : k ≤ 1000000) (q : ∀ p H', H p = none → Same H H' → H' p = some (.lst (List.replicate k.toNat x)) → Q (.ref p) H') : rRep (.ref l) (.int k) H Q :=
  r_rep h h0 h1 fun p np => q p _ np (same_new np _) upd_same
section
variable {σ : L2.St} {H : Hp} {Q : VK}
/-- lists and tuples newly made, the heap left open -/
def NewL (Q : VK) (H : Hp) (xs : List V) : Prop := xs.length ≤ sizeLine ∧ ∀ p, H p = none → Q (.ref p) (upd H p (.lst xs))
def NewT (Q : VK) (H : Hp) (xs : List V) : Prop := xs.length ≤ sizeLine ∧ ∀ p, H p = none → Q (.ref p) (upd H p (.tup xs))
theorem r_lstN {tr : TA} (h : tr σ H fun xs H1 => NewL Q H1 xs) : tLst tr σ H Q := h
theorem r_tupN {tr : TA} (h : tr σ H fun xs H1 => NewT Q H1 xs) : tTup tr σ H Q := h
theorem r_newL {xs : List V} (z : xs.length ≤ 1000000) (q : ∀ p H', H p = none → Same H H' → H' p = some (.lst xs) → Q (.ref p) H') : NewL Q H xs := ⟨sz z, fun p np => q p _ np (same_new np _) upd_same⟩
theorem r_newT {xs : List V} (z : xs.length ≤ 1000000) (q : ∀ p H', H p = none → Same H H' → H' p = some (.tup xs) → Q (.ref p) H') : NewT Q H xs := ⟨sz z, fun p np => q p _ np (same_new np _) upd_same⟩
theorem r_catN {l b : Addr} {xs zs : List V} (h : H l = some (.lst xs)) (h' : H b = some (.lst zs)) (z : xs.length + zs.length ≤ 1000000) (q : ∀ p H', H p = none → Same H H' → H' p = some (.lst (xs ++ zs)) → Q (.ref p) H') : rCat (.ref l) (.ref b) H Q :=
  r_cat h h' z fun p np => q p _ np (same_new np _) upd_same
theorem br_nf {A B : Prop} (h : A) : if (!false) = true then A else B := by
  rw [Bool.not_false, if_pos rfl]
  exact h
end
/-- P of every item -/
def AllV (P : V → Prop) : List V → Prop
  | [] => True
  | v :: vs => P v ∧ AllV P vs
theorem AllV.nil {P : V → Prop} : AllV P [] := trivial
theorem AllV.cons {P : V → Prop} {v : V} {vs : List V} (h : P v) (t : AllV P vs) : AllV P (v :: vs) := ⟨h, t⟩
theorem AllV.get {P : V → Prop} : ∀ {vs : List V} {j : Nat} {v : V}, AllV P vs → vs[j]? = some v → P v
  | [], _, _, _, h => by cases h
  | v :: vs, 0, _, a, h => by
    cases h
    exact a.1
  | v :: vs, j + 1, _, a, h => AllV.get a.2 h
theorem AllV.pick {P : V → Prop} {vs : List V} {i : Int} (a : AllV P vs) (h0 : 0 ≤ i) (h1 : i < (vs.length : Int)) : ∃ v, atI vs i = some v ∧ P v := by
  have hj : i.toNat < vs.length := by omega
  have e : vs[i.toNat]? = some vs[i.toNat] := List.getElem?_eq_getElem hj
  exact ⟨_, r_at (j := i.toNat) (by omega) e, a.get e⟩
end VT
local macro_rules | `(tactic| walk_at "ne") => `(tactic| first | assumption | exact Ne.symm (by assumption) | ((refine' VT.ne_new ?h1 ?h2); (case h1 => assumption); (case h2 => walk_at "hp")) | ((refine' VT.ne_new' ?h1 ?h2); (case h1 => assumption); (case h2 => walk_at "hp")))
local macro_rules | `(tactic| walk_at "hp") => `(tactic| first | assumption | exact L2.upd_same | ((refine' VT.up_get ?n ?h); (case n => walk_at "ne"); (case h => walk_at "hp")) | ((refine' VT.Same.get ?e ?h); (case e => assumption); (case h => walk_at "hp")) | ((refine' VT.But.get ?e ?n ?h); (case e => assumption); (case n => walk_at "ne"); (case h => walk_at "hp")))
local macro_rules | `(tactic| walk_at "fr") => `(tactic| first | assumption | ((refine' L2.Same.free ?e ?h); (case h => assumption); (case e => walk_at "sm")))
local macro_rules | `(tactic| walk_at "sm") => `(tactic| first | assumption | exact L2.Same.refl _ | ((refine' VT.same_new2 ?e ?h); (case h => assumption); (case e => walk_at "sm")) | ((refine' VT.same_mut ?e ?h); (case h => walk_at "fr"); (case e => walk_at "sm")) | ((refine' L2.Same.trans ?a ?b); (case b => assumption); (case a => walk_at "sm")) | ((refine' VT.same_but ?a ?b ?c); (case b => assumption); (case c => walk_at "fr"); (case a => walk_at "sm")))
local macro_rules | `(tactic| walk_at "sq") => `(tactic| first | assumption | ((refine' VT.SqL.lst ?h); (case h => walk_at "hp")) | ((refine' L2.Same.seq ?e ?h); (case h => assumption); (case e => walk_at "sm")))
local macro_rules | `(tactic| walk_at "sqT") => `(tactic| first | assumption | ((refine' VT.SqT.tup ?h); (case h => walk_at "hp")) | ((refine' VT.same_seqT ?e ?h); (case h => assumption); (case e => walk_at "sm")))
local macro_rules | `(tactic| walk_at "cond") => `(tactic| first | omega | assumption | (show (0 : Int) < _; omega) | exact ⟨by omega, by omega, by omega, by omega⟩ | exact ⟨by decide, by decide⟩ | exact ⟨by omega, by omega⟩ | exact Or.inl ⟨by omega, by omega⟩ | exact Or.inr ⟨by omega, by omega⟩ | exact ⟨by omega, by omega, by omega⟩ | decide)
local macro_rules | `(tactic| walk_at "go1") => `(tactic| first
  | with_reducible refine' VT.r_seq ?_ | with_reducible refine' VT.r_asg ?_ | with_reducible refine' VT.r_name ?_ | with_reducible refine' VT.r_sub ?_ | ((with_reducible refine' VT.r_var ?h ?_); (case h => exact rfl)) | with_reducible refine' VT.r_c ?_
  | with_reducible refine' VT.r_op ?_ | with_reducible refine' VT.r_I0 ?_ | with_reducible refine' VT.r_eqI ?_ | with_reducible refine' VT.r_neI ?_ | with_reducible refine' VT.r_eqB ?_ | with_reducible refine' VT.r_neB ?_
  | with_reducible refine' VT.r_test ?_ | with_reducible refine' VT.r_B ?_ | with_reducible refine' VT.r_bl ?_ | with_reducible refine' VT.r_cons ?_ | with_reducible refine' VT.r_nil ?_ | with_reducible refine' VT.r_CB ?_ | with_reducible refine' VT.r_call ?_
  | ((with_reducible refine' VT.r_I ?c ?_); (case c => walk_at "cond")) | ((with_reducible refine' VT.r_lenI ?s ?_); (case s => walk_at "sq")) | ((with_reducible refine' VT.r_len ?s ?_); (case s => walk_at "sq")) | ((with_reducible refine' VT.r_lenT ?s ?_); (case s => walk_at "sqT")) | ((with_reducible refine' VT.r_ixL ?s ?a ?_); (case s => walk_at "sq"); (case a => walk_at "at")) | ((with_reducible refine' VT.r_ixT ?s ?a ?_); (case s => walk_at "sqT"); (case a => walk_at "at"))
  | with_reducible refine' VT.r_for1 ?_ | ((with_reducible refine' VT.r_rng1 ?c ?_); (case c => walk_at "cond")) | with_reducible refine' VT.r_for2 ?_ | ((with_reducible refine' VT.r_rng2 ?c ?_); (case c => walk_at "cond")) | with_reducible refine' VT.r_forL ?_ | ((with_reducible refine' VT.r_itL ?s ?_); (case s => walk_at "sq")) | with_reducible refine' VT.r_forC ?_ | with_reducible refine' VT.r_rg1 ?_ | with_reducible refine' VT.r_rg2 ?_ | with_reducible refine' VT.r_ij ?_ | ((with_reducible refine' VT.r_rngC ?c ?_); (case c => walk_at "cond")) | with_reducible refine' VT.r_listRev ?_ | with_reducible refine' VT.r_lstRg ?_ | ((with_reducible refine' VT.r_revOf ?s ?_); (case s => walk_at "sq")) | with_reducible refine' VT.r_forT ?_ | ((with_reducible refine' VT.r_itT ?s ?_); (case s => walk_at "sqT"))
  | with_reducible refine' VT.r_lc1 ?_ | with_reducible refine' VT.r_lc2 ?_ | with_reducible refine' VT.r_lcL ?_ | with_reducible refine' VT.r_yes ?_
  | with_reducible refine' VT.r_drop ?_ | with_reducible refine' VT.r_ret ?_ | with_reducible refine' VT.r_retN ?_ | with_reducible refine' VT.r_if ?_ | with_reducible refine' VT.r_next ?_ | with_reducible refine' VT.r_chain ?_ | with_reducible refine' VT.r_chain3 ?_ | with_reducible refine' VT.r_sFld ?_ | with_reducible refine' VT.r_not ?_
  | with_reducible refine' VT.r_andV ?_ | with_reducible refine' VT.r_orV ?_ | with_reducible refine' VT.r_notV ?_ | with_reducible refine' VT.r_ifE ?_ | with_reducible refine' VT.r_lst ?_ | with_reducible refine' VT.r_tup ?_ | with_reducible refine' VT.r_sl ?_ | with_reducible refine' VT.r_part ?_ | with_reducible refine' VT.r_int ?_ | with_reducible refine' VT.r_noPart ?_
  | with_reducible refine' VT.r_bm ?_ | with_reducible refine' VT.r_bm0 ?_ | with_reducible refine' VT.r_fld ?_ | with_reducible refine' VT.r_un ?_ | with_reducible refine' VT.r_U ?_ | with_reducible refine' VT.r_isN ?_ | with_reducible refine' VT.r_notN ?_ | with_reducible refine' VT.r_meth ?_ | with_reducible refine' VT.r_make ?_
  | ((with_reducible refine' VT.r_tyL ?s ?_); (case s => walk_at "sq")) | ((with_reducible refine' VT.r_app ?h ?z ?_); (case h => walk_at "hp"); (case z => walk_at "len")) | ((with_reducible refine' VT.r_fldR ?h ?c ?n ?_); (case h => walk_at "hp"); (case c => assumption); (case n => assumption)) | ((with_reducible refine' VT.r_methR ?h ?m ?_); (case h => walk_at "hp"); (case m => decide +kernel)) | ((with_reducible refine' VT.r_new ?z ?_); (case z => exact Nat.le_of_ble_eq_true rfl)))
local macro_rules | `(tactic| walk_at "andor") => `(tactic| first | with_reducible refine' VT.r_and ?_ | with_reducible refine' VT.r_or ?_)
local macro_rules | `(tactic| walk_at "go") => `(tactic| repeat walk_at "go1")
local macro_rules | `(tactic| walk_at "at") => `(tactic| first | assumption | exact L2.atI_nat (by assumption) | exact VT.r_at (by assumption) (by assumption) | exact VT.r_at (by omega) (by assumption) | exact VT.r_at rfl (by assumption) | exact VT.r_at (j := 0) rfl rfl | exact VT.r_at (j := 1) rfl rfl | exact VT.r_at (j := 2) rfl rfl)
local macro_rules | `(tactic| walk_at "len") => `(tactic| (simp only [List.length_map, List.length_append, List.length_cons, List.length_nil, List.length_take, List.length_drop, List.length_replicate]; omega))
local macro_rules | `(tactic| walk_at "and") => `(tactic| ((with_reducible refine' VT.r_andD ?a ?b ?_); (case a => intro Z h; walk_at "go"; exact h); (case b => intro Z h; walk_at "go"; exact h)))
local macro_rules | `(tactic| walk_at "or") => `(tactic| ((with_reducible refine' VT.r_orD ?a ?b ?_); (case a => intro Z h; walk_at "go"; exact h); (case b => intro Z h; walk_at "go"; exact h)))
local macro_rules | `(tactic| walk_at "and") => `(tactic| ((with_reducible refine' VT.r_andD ?a ?b ?_); (case a => (intro Z h); (walk_at "go"); exact h); (case b => (intro Z h); (walk_at "go"); exact h)))
local macro_rules | `(tactic| walk_at "or") => `(tactic| ((with_reducible refine' VT.r_orD ?a ?b ?_); (case a => (intro Z h); (walk_at "go"); exact h); (case b => (intro Z h); (walk_at "go"); exact h)))
local macro_rules | `(tactic| walk_at "gx1") => `(tactic| first | with_reducible refine' VT.r_lstN ?_ | with_reducible refine' VT.r_tupN ?_ | ((with_reducible refine' VT.r_newL ?z ?_); (case z => exact Nat.le_of_ble_eq_true rfl)) | ((with_reducible refine' VT.r_newT ?z ?_); (case z => exact Nat.le_of_ble_eq_true rfl)) | with_reducible refine' VT.r_callS ?_ | walk_at "go1")
local macro_rules | `(tactic| walk_at "gx") => `(tactic| repeat walk_at "gx1")
namespace VT
open PySem PySem.Spec PyProof.Rows L2
def top (i : Nat) : Stmt := PySem.Challenge.pw_valleytree_k15_each_refusal_its_own.main.body.getD i (.Pass ⟨0, 0, 0, 0⟩)
abbrev s_Row_numbers : Stmt := inClass (top 11) 3
abbrev s_Row___init__ : Stmt := inClass (top 11) 0
abbrev s_Row_put_in : Stmt := inClass (top 11) 6
abbrev s_joined : Stmt := top 12
abbrev s__law_no_row : Stmt := top 45
abbrev s_Row_ask : Stmt := inClass (top 11) 1
abbrev s_Row_set_at : Stmt := inClass (top 11) 4
abbrev s_Row_take_out : Stmt := inClass (top 11) 5
abbrev s_Row_cut : Stmt := inClass (top 11) 8
abbrev s__law_no_place : Stmt := top 46
abbrev s_Row_ask_stretch : Stmt := inClass (top 11) 2
abbrev s_least : Stmt := top 14
abbrev s_Row_add_to : Stmt := inClass (top 11) 7
abbrev s__law_no_stretch : Stmt := top 47
abbrev s_over : Stmt := top 16
abbrev s_tree_over : Stmt := top 17
abbrev s_depths : Stmt := top 18
abbrev s_is_tree : Stmt := top 19
abbrev s_ask_tree : Stmt := top 24
abbrev s_tree_number : Stmt := top 27
abbrev s_many_orders : Stmt := top 31
abbrev s_order_at : Stmt := top 35
abbrev s_order_number : Stmt := top 37
abbrev s__law_no_tree : Stmt := top 48
abbrev s__law_no_order : Stmt := top 49
abbrev s_many_trees : Stmt := top 21
abbrev s_tree_at : Stmt := top 23
abbrev s_shapes : Stmt := top 20
abbrev s_picks : Stmt := top 29
abbrev s_head_of : Stmt := top 25
abbrev s_count : Stmt := top 30
abbrev s__law_no_number : Stmt := top 50
abbrev s_ask_sky : Stmt := top 39
abbrev s_widest : Stmt := top 40
abbrev s_water : Stmt := top 41
abbrev s__law_no_sky : Stmt := top 51
abbrev s__law_done : Stmt := top 52
abbrev s__law_cell_at : Stmt := top 43
abbrev s__law_which : Stmt := top 44
abbrev s_law : Stmt := top 53
/-- where the classes of the refusals stand -/
structure XA where
  RowError : Addr
  NoRow : Addr
  NoPlace : Addr
  NoStretch : Addr
  NoTree : Addr
  NoOrder : Addr
  NoNumber : Addr
  NoSky : Addr
structure Txt (K : PySem.W.Frag) (mg : Str → Option Value) (C : Addr) (xa : XA) : Prop where
  g_RowError : mg "RowError" = some (.ref xa.RowError)
  g_NoRow : mg "NoRow" = some (.ref xa.NoRow)
  g_NoPlace : mg "NoPlace" = some (.ref xa.NoPlace)
  g_NoStretch : mg "NoStretch" = some (.ref xa.NoStretch)
  g_NoTree : mg "NoTree" = some (.ref xa.NoTree)
  g_NoOrder : mg "NoOrder" = some (.ref xa.NoOrder)
  g_NoNumber : mg "NoNumber" = some (.ref xa.NoNumber)
  g_NoSky : mg "NoSky" = some (.ref xa.NoSky)
  su_RowError : PySem.W.subIn K (.ref xa.RowError) (.type "BaseException") = some true
  ty_RowError : PySem.W.typeIn K (.ref xa.RowError) = some (.type "type")
  su_NoRow : PySem.W.subIn K (.ref xa.NoRow) (.type "BaseException") = some true
  ty_NoRow : PySem.W.typeIn K (.ref xa.NoRow) = some (.type "type")
  su_NoPlace : PySem.W.subIn K (.ref xa.NoPlace) (.type "BaseException") = some true
  ty_NoPlace : PySem.W.typeIn K (.ref xa.NoPlace) = some (.type "type")
  su_NoStretch : PySem.W.subIn K (.ref xa.NoStretch) (.type "BaseException") = some true
  ty_NoStretch : PySem.W.typeIn K (.ref xa.NoStretch) = some (.type "type")
  su_NoTree : PySem.W.subIn K (.ref xa.NoTree) (.type "BaseException") = some true
  ty_NoTree : PySem.W.typeIn K (.ref xa.NoTree) = some (.type "type")
  su_NoOrder : PySem.W.subIn K (.ref xa.NoOrder) (.type "BaseException") = some true
  ty_NoOrder : PySem.W.typeIn K (.ref xa.NoOrder) = some (.type "type")
  su_NoNumber : PySem.W.subIn K (.ref xa.NoNumber) (.type "BaseException") = some true
  ty_NoNumber : PySem.W.typeIn K (.ref xa.NoNumber) = some (.type "type")
  su_NoSky : PySem.W.subIn K (.ref xa.NoSky) (.type "BaseException") = some true
  ty_NoSky : PySem.W.typeIn K (.ref xa.NoSky) = some (.type "type")
  cl_RowError : PySem.W.isClsIn K xa.RowError = true
  hn : PySem.W.specialIn K (.builtin "object.__class__") "__get__" = some (some (.builtin "getset_descriptor.__get__"))
  ht : PySem.W.takesIn K (.builtin "object.__class__") = some true
  x_NoRow : PySem.W.excIn K xa.NoRow [.type "ValueError", .type "Exception", .type "BaseException", .type "object"] "ValueError.__new__" = true
  kp_NoRow : PySem.W.keepIn K (.ref xa.NoRow) = true
  sr_NoRow : PySem.W.subIn K (.ref xa.NoRow) (.ref xa.RowError) = some true
  hg_NoRow : PySem.W.findIn K (.ref xa.NoRow) "__getattribute__" = some (some (.builtin "BaseException.__getattribute__"))
  hk_NoRow : PySem.W.findIn K (.ref xa.NoRow) "__getattr__" = some none
  hd_NoRow : PySem.W.hasDictIn K xa.NoRow = true
  ha_NoRow : PySem.W.findIn K (.ref xa.NoRow) "__class__" = some (some (.builtin "object.__class__"))
  hm_NoRow : PySem.W.mroIn K xa.NoRow (.type "object") = some true
  kv_NoRow : PySem.W.kitOne K (.ref xa.NoRow) (.type "ValueError") = some true
  kt_NoRow_NoRow : PySem.W.kitOne K (.ref xa.NoRow) (.ref xa.NoRow) = some true
  kt_NoRow_NoPlace : PySem.W.kitOne K (.ref xa.NoRow) (.ref xa.NoPlace) = some false
  kt_NoRow_NoStretch : PySem.W.kitOne K (.ref xa.NoRow) (.ref xa.NoStretch) = some false
  kt_NoRow_NoTree : PySem.W.kitOne K (.ref xa.NoRow) (.ref xa.NoTree) = some false
  kt_NoRow_NoOrder : PySem.W.kitOne K (.ref xa.NoRow) (.ref xa.NoOrder) = some false
  kt_NoRow_NoNumber : PySem.W.kitOne K (.ref xa.NoRow) (.ref xa.NoNumber) = some false
  kt_NoRow_NoSky : PySem.W.kitOne K (.ref xa.NoRow) (.ref xa.NoSky) = some false
  x_NoPlace : PySem.W.excIn K xa.NoPlace [.type "ValueError", .type "Exception", .type "BaseException", .type "object"] "ValueError.__new__" = true
  kp_NoPlace : PySem.W.keepIn K (.ref xa.NoPlace) = true
  sr_NoPlace : PySem.W.subIn K (.ref xa.NoPlace) (.ref xa.RowError) = some true
  hg_NoPlace : PySem.W.findIn K (.ref xa.NoPlace) "__getattribute__" = some (some (.builtin "BaseException.__getattribute__"))
  hk_NoPlace : PySem.W.findIn K (.ref xa.NoPlace) "__getattr__" = some none
  hd_NoPlace : PySem.W.hasDictIn K xa.NoPlace = true
  ha_NoPlace : PySem.W.findIn K (.ref xa.NoPlace) "__class__" = some (some (.builtin "object.__class__"))
  hm_NoPlace : PySem.W.mroIn K xa.NoPlace (.type "object") = some true
  kv_NoPlace : PySem.W.kitOne K (.ref xa.NoPlace) (.type "ValueError") = some true
  kt_NoPlace_NoRow : PySem.W.kitOne K (.ref xa.NoPlace) (.ref xa.NoRow) = some false
  kt_NoPlace_NoPlace : PySem.W.kitOne K (.ref xa.NoPlace) (.ref xa.NoPlace) = some true
  kt_NoPlace_NoStretch : PySem.W.kitOne K (.ref xa.NoPlace) (.ref xa.NoStretch) = some false
  kt_NoPlace_NoTree : PySem.W.kitOne K (.ref xa.NoPlace) (.ref xa.NoTree) = some false
  kt_NoPlace_NoOrder : PySem.W.kitOne K (.ref xa.NoPlace) (.ref xa.NoOrder) = some false
  kt_NoPlace_NoNumber : PySem.W.kitOne K (.ref xa.NoPlace) (.ref xa.NoNumber) = some false
  kt_NoPlace_NoSky : PySem.W.kitOne K (.ref xa.NoPlace) (.ref xa.NoSky) = some false
  x_NoStretch : PySem.W.excIn K xa.NoStretch [.type "ValueError", .type "Exception", .type "BaseException", .type "object"] "ValueError.__new__" = true
  kp_NoStretch : PySem.W.keepIn K (.ref xa.NoStretch) = true
  sr_NoStretch : PySem.W.subIn K (.ref xa.NoStretch) (.ref xa.RowError) = some true
  hg_NoStretch : PySem.W.findIn K (.ref xa.NoStretch) "__getattribute__" = some (some (.builtin "BaseException.__getattribute__"))
  hk_NoStretch : PySem.W.findIn K (.ref xa.NoStretch) "__getattr__" = some none
  hd_NoStretch : PySem.W.hasDictIn K xa.NoStretch = true
  ha_NoStretch : PySem.W.findIn K (.ref xa.NoStretch) "__class__" = some (some (.builtin "object.__class__"))
  hm_NoStretch : PySem.W.mroIn K xa.NoStretch (.type "object") = some true
  kv_NoStretch : PySem.W.kitOne K (.ref xa.NoStretch) (.type "ValueError") = some true
  kt_NoStretch_NoRow : PySem.W.kitOne K (.ref xa.NoStretch) (.ref xa.NoRow) = some false
  kt_NoStretch_NoPlace : PySem.W.kitOne K (.ref xa.NoStretch) (.ref xa.NoPlace) = some false
  kt_NoStretch_NoStretch : PySem.W.kitOne K (.ref xa.NoStretch) (.ref xa.NoStretch) = some true
  kt_NoStretch_NoTree : PySem.W.kitOne K (.ref xa.NoStretch) (.ref xa.NoTree) = some false
  kt_NoStretch_NoOrder : PySem.W.kitOne K (.ref xa.NoStretch) (.ref xa.NoOrder) = some false
  kt_NoStretch_NoNumber : PySem.W.kitOne K (.ref xa.NoStretch) (.ref xa.NoNumber) = some false
  kt_NoStretch_NoSky : PySem.W.kitOne K (.ref xa.NoStretch) (.ref xa.NoSky) = some false
  x_NoTree : PySem.W.excIn K xa.NoTree [.type "ValueError", .type "Exception", .type "BaseException", .type "object"] "ValueError.__new__" = true
  kp_NoTree : PySem.W.keepIn K (.ref xa.NoTree) = true
  sr_NoTree : PySem.W.subIn K (.ref xa.NoTree) (.ref xa.RowError) = some true
  hg_NoTree : PySem.W.findIn K (.ref xa.NoTree) "__getattribute__" = some (some (.builtin "BaseException.__getattribute__"))
  hk_NoTree : PySem.W.findIn K (.ref xa.NoTree) "__getattr__" = some none
  hd_NoTree : PySem.W.hasDictIn K xa.NoTree = true
  ha_NoTree : PySem.W.findIn K (.ref xa.NoTree) "__class__" = some (some (.builtin "object.__class__"))
  hm_NoTree : PySem.W.mroIn K xa.NoTree (.type "object") = some true
  kv_NoTree : PySem.W.kitOne K (.ref xa.NoTree) (.type "ValueError") = some true
  kt_NoTree_NoRow : PySem.W.kitOne K (.ref xa.NoTree) (.ref xa.NoRow) = some false
  kt_NoTree_NoPlace : PySem.W.kitOne K (.ref xa.NoTree) (.ref xa.NoPlace) = some false
  kt_NoTree_NoStretch : PySem.W.kitOne K (.ref xa.NoTree) (.ref xa.NoStretch) = some false
  kt_NoTree_NoTree : PySem.W.kitOne K (.ref xa.NoTree) (.ref xa.NoTree) = some true
  kt_NoTree_NoOrder : PySem.W.kitOne K (.ref xa.NoTree) (.ref xa.NoOrder) = some false
  kt_NoTree_NoNumber : PySem.W.kitOne K (.ref xa.NoTree) (.ref xa.NoNumber) = some false
  kt_NoTree_NoSky : PySem.W.kitOne K (.ref xa.NoTree) (.ref xa.NoSky) = some false
  x_NoOrder : PySem.W.excIn K xa.NoOrder [.type "ValueError", .type "Exception", .type "BaseException", .type "object"] "ValueError.__new__" = true
  kp_NoOrder : PySem.W.keepIn K (.ref xa.NoOrder) = true
  sr_NoOrder : PySem.W.subIn K (.ref xa.NoOrder) (.ref xa.RowError) = some true
  hg_NoOrder : PySem.W.findIn K (.ref xa.NoOrder) "__getattribute__" = some (some (.builtin "BaseException.__getattribute__"))
  hk_NoOrder : PySem.W.findIn K (.ref xa.NoOrder) "__getattr__" = some none
  hd_NoOrder : PySem.W.hasDictIn K xa.NoOrder = true
  ha_NoOrder : PySem.W.findIn K (.ref xa.NoOrder) "__class__" = some (some (.builtin "object.__class__"))
  hm_NoOrder : PySem.W.mroIn K xa.NoOrder (.type "object") = some true
  kv_NoOrder : PySem.W.kitOne K (.ref xa.NoOrder) (.type "ValueError") = some true
  kt_NoOrder_NoRow : PySem.W.kitOne K (.ref xa.NoOrder) (.ref xa.NoRow) = some false
  kt_NoOrder_NoPlace : PySem.W.kitOne K (.ref xa.NoOrder) (.ref xa.NoPlace) = some false
  kt_NoOrder_NoStretch : PySem.W.kitOne K (.ref xa.NoOrder) (.ref xa.NoStretch) = some false
  kt_NoOrder_NoTree : PySem.W.kitOne K (.ref xa.NoOrder) (.ref xa.NoTree) = some false
  kt_NoOrder_NoOrder : PySem.W.kitOne K (.ref xa.NoOrder) (.ref xa.NoOrder) = some true
  kt_NoOrder_NoNumber : PySem.W.kitOne K (.ref xa.NoOrder) (.ref xa.NoNumber) = some false
  kt_NoOrder_NoSky : PySem.W.kitOne K (.ref xa.NoOrder) (.ref xa.NoSky) = some false
  x_NoNumber : PySem.W.excIn K xa.NoNumber [.type "ValueError", .type "Exception", .type "BaseException", .type "object"] "ValueError.__new__" = true
  kp_NoNumber : PySem.W.keepIn K (.ref xa.NoNumber) = true
  sr_NoNumber : PySem.W.subIn K (.ref xa.NoNumber) (.ref xa.RowError) = some true
  hg_NoNumber : PySem.W.findIn K (.ref xa.NoNumber) "__getattribute__" = some (some (.builtin "BaseException.__getattribute__"))
  hk_NoNumber : PySem.W.findIn K (.ref xa.NoNumber) "__getattr__" = some none
  hd_NoNumber : PySem.W.hasDictIn K xa.NoNumber = true
  ha_NoNumber : PySem.W.findIn K (.ref xa.NoNumber) "__class__" = some (some (.builtin "object.__class__"))
  hm_NoNumber : PySem.W.mroIn K xa.NoNumber (.type "object") = some true
  kv_NoNumber : PySem.W.kitOne K (.ref xa.NoNumber) (.type "ValueError") = some true
  kt_NoNumber_NoRow : PySem.W.kitOne K (.ref xa.NoNumber) (.ref xa.NoRow) = some false
  kt_NoNumber_NoPlace : PySem.W.kitOne K (.ref xa.NoNumber) (.ref xa.NoPlace) = some false
  kt_NoNumber_NoStretch : PySem.W.kitOne K (.ref xa.NoNumber) (.ref xa.NoStretch) = some false
  kt_NoNumber_NoTree : PySem.W.kitOne K (.ref xa.NoNumber) (.ref xa.NoTree) = some false
  kt_NoNumber_NoOrder : PySem.W.kitOne K (.ref xa.NoNumber) (.ref xa.NoOrder) = some false
  kt_NoNumber_NoNumber : PySem.W.kitOne K (.ref xa.NoNumber) (.ref xa.NoNumber) = some true
  kt_NoNumber_NoSky : PySem.W.kitOne K (.ref xa.NoNumber) (.ref xa.NoSky) = some false
  x_NoSky : PySem.W.excIn K xa.NoSky [.type "ValueError", .type "Exception", .type "BaseException", .type "object"] "ValueError.__new__" = true
  kp_NoSky : PySem.W.keepIn K (.ref xa.NoSky) = true
  sr_NoSky : PySem.W.subIn K (.ref xa.NoSky) (.ref xa.RowError) = some true
  hg_NoSky : PySem.W.findIn K (.ref xa.NoSky) "__getattribute__" = some (some (.builtin "BaseException.__getattribute__"))
  hk_NoSky : PySem.W.findIn K (.ref xa.NoSky) "__getattr__" = some none
  hd_NoSky : PySem.W.hasDictIn K xa.NoSky = true
  ha_NoSky : PySem.W.findIn K (.ref xa.NoSky) "__class__" = some (some (.builtin "object.__class__"))
  hm_NoSky : PySem.W.mroIn K xa.NoSky (.type "object") = some true
  kv_NoSky : PySem.W.kitOne K (.ref xa.NoSky) (.type "ValueError") = some true
  kt_NoSky_NoRow : PySem.W.kitOne K (.ref xa.NoSky) (.ref xa.NoRow) = some false
  kt_NoSky_NoPlace : PySem.W.kitOne K (.ref xa.NoSky) (.ref xa.NoPlace) = some false
  kt_NoSky_NoStretch : PySem.W.kitOne K (.ref xa.NoSky) (.ref xa.NoStretch) = some false
  kt_NoSky_NoTree : PySem.W.kitOne K (.ref xa.NoSky) (.ref xa.NoTree) = some false
  kt_NoSky_NoOrder : PySem.W.kitOne K (.ref xa.NoSky) (.ref xa.NoOrder) = some false
  kt_NoSky_NoNumber : PySem.W.kitOne K (.ref xa.NoSky) (.ref xa.NoNumber) = some false
  kt_NoSky_NoSky : PySem.W.kitOne K (.ref xa.NoSky) (.ref xa.NoSky) = some true
  cl : Cls K C
  nK : NoAttr K C "kept"
  mgC : mg "Row" = some (.ref C)
  b_ValueError : mg "ValueError" = none
  b_isinstance : mg "isinstance" = none
  b_len : mg "len" = none
  b_list : mg "list" = none
  b_min : mg "min" = none
  b_range : mg "range" = none
  b_sorted : mg "sorted" = none
  b_sum : mg "sum" = none
  g_MOST : ∃ u, mg "MOST" = some u ∧ RelV (.int 40) u
def XA.at (xa : XA) : Nat → Addr
  | 0 => xa.NoRow
  | 1 => xa.NoPlace
  | 2 => xa.NoStretch
  | 3 => xa.NoTree
  | 4 => xa.NoOrder
  | 5 => xa.NoNumber
  | _ => xa.NoSky
def bitsOf (w : Nat) : List Bool := [decide (w = 0), decide (w = 1), decide (w = 2), decide (w = 3), decide (w = 4), decide (w = 5), decide (w = 6), true]
theorem Txt.which {K : PySem.W.Frag} {mg : Str → Option Value} {C : Addr} {xa : XA} (T : Txt K mg C xa) : ∀ (w : Nat), w < 7 → PySem.W.subIn K (.ref (xa.at w)) (.ref xa.RowError) = some true ∧ ExcC K (xa.at w) ∧ PySem.W.kitOne K (.ref (xa.at w)) (.ref xa.NoRow) = some (decide (w = 0)) ∧ PySem.W.kitOne K (.ref (xa.at w)) (.ref xa.NoPlace) = some (decide (w = 1)) ∧ PySem.W.kitOne K (.ref (xa.at w)) (.ref xa.NoStretch) = some (decide (w = 2)) ∧ PySem.W.kitOne K (.ref (xa.at w)) (.ref xa.NoTree) = some (decide (w = 3)) ∧ PySem.W.kitOne K (.ref (xa.at w)) (.ref xa.NoOrder) = some (decide (w = 4)) ∧ PySem.W.kitOne K (.ref (xa.at w)) (.ref xa.NoNumber) = some (decide (w = 5)) ∧ PySem.W.kitOne K (.ref (xa.at w)) (.ref xa.NoSky) = some (decide (w = 6)) ∧ PySem.W.kitOne K (.ref (xa.at w)) (.type "ValueError") = some true
  | 0, _ => ⟨T.sr_NoRow, ⟨T.hg_NoRow, T.hk_NoRow, T.su_NoRow, T.hd_NoRow, T.ha_NoRow, T.hn, T.ht, T.hm_NoRow⟩, T.kt_NoRow_NoRow, T.kt_NoRow_NoPlace, T.kt_NoRow_NoStretch, T.kt_NoRow_NoTree, T.kt_NoRow_NoOrder, T.kt_NoRow_NoNumber, T.kt_NoRow_NoSky, T.kv_NoRow⟩
  | 1, _ => ⟨T.sr_NoPlace, ⟨T.hg_NoPlace, T.hk_NoPlace, T.su_NoPlace, T.hd_NoPlace, T.ha_NoPlace, T.hn, T.ht, T.hm_NoPlace⟩, T.kt_NoPlace_NoRow, T.kt_NoPlace_NoPlace, T.kt_NoPlace_NoStretch, T.kt_NoPlace_NoTree, T.kt_NoPlace_NoOrder, T.kt_NoPlace_NoNumber, T.kt_NoPlace_NoSky, T.kv_NoPlace⟩
  | 2, _ => ⟨T.sr_NoStretch, ⟨T.hg_NoStretch, T.hk_NoStretch, T.su_NoStretch, T.hd_NoStretch, T.ha_NoStretch, T.hn, T.ht, T.hm_NoStretch⟩, T.kt_NoStretch_NoRow, T.kt_NoStretch_NoPlace, T.kt_NoStretch_NoStretch, T.kt_NoStretch_NoTree, T.kt_NoStretch_NoOrder, T.kt_NoStretch_NoNumber, T.kt_NoStretch_NoSky, T.kv_NoStretch⟩
  | 3, _ => ⟨T.sr_NoTree, ⟨T.hg_NoTree, T.hk_NoTree, T.su_NoTree, T.hd_NoTree, T.ha_NoTree, T.hn, T.ht, T.hm_NoTree⟩, T.kt_NoTree_NoRow, T.kt_NoTree_NoPlace, T.kt_NoTree_NoStretch, T.kt_NoTree_NoTree, T.kt_NoTree_NoOrder, T.kt_NoTree_NoNumber, T.kt_NoTree_NoSky, T.kv_NoTree⟩
  | 4, _ => ⟨T.sr_NoOrder, ⟨T.hg_NoOrder, T.hk_NoOrder, T.su_NoOrder, T.hd_NoOrder, T.ha_NoOrder, T.hn, T.ht, T.hm_NoOrder⟩, T.kt_NoOrder_NoRow, T.kt_NoOrder_NoPlace, T.kt_NoOrder_NoStretch, T.kt_NoOrder_NoTree, T.kt_NoOrder_NoOrder, T.kt_NoOrder_NoNumber, T.kt_NoOrder_NoSky, T.kv_NoOrder⟩
  | 5, _ => ⟨T.sr_NoNumber, ⟨T.hg_NoNumber, T.hk_NoNumber, T.su_NoNumber, T.hd_NoNumber, T.ha_NoNumber, T.hn, T.ht, T.hm_NoNumber⟩, T.kt_NoNumber_NoRow, T.kt_NoNumber_NoPlace, T.kt_NoNumber_NoStretch, T.kt_NoNumber_NoTree, T.kt_NoNumber_NoOrder, T.kt_NoNumber_NoNumber, T.kt_NoNumber_NoSky, T.kv_NoNumber⟩
  | 6, _ => ⟨T.sr_NoSky, ⟨T.hg_NoSky, T.hk_NoSky, T.su_NoSky, T.hd_NoSky, T.ha_NoSky, T.hn, T.ht, T.hm_NoSky⟩, T.kt_NoSky_NoRow, T.kt_NoSky_NoPlace, T.kt_NoSky_NoStretch, T.kt_NoSky_NoTree, T.kt_NoSky_NoOrder, T.kt_NoSky_NoNumber, T.kt_NoSky_NoSky, T.kv_NoSky⟩
  | w + 7, h => absurd h (by omega)
section
variable {P : Program} {w : World} {K : PySem.W.Frag} {mg : Str → Option Value} {base : Heap} {C : Addr} {xa : XA}
theorem sc_Row_numbers : FnScope ["self"] ["self"] (defScope s_Row_numbers) := ⟨rfl, rfl, rfl, by decide +kernel, rfl, by decide +kernel, by decide +kernel⟩
theorem sc_Row___init__ : FnScope ["self", "numbers"] ["self", "numbers"] (defScope s_Row___init__) := ⟨rfl, rfl, rfl, by decide +kernel, rfl, by decide +kernel, by decide +kernel⟩
theorem sc_Row_put_in : FnScope ["self", "place", "number"] ["self", "place", "number"] (defScope s_Row_put_in) := ⟨rfl, rfl, rfl, by decide +kernel, rfl, by decide +kernel, by decide +kernel⟩
theorem sc_joined : FnScope ["one", "other"] ["one", "other"] (defScope s_joined) := ⟨rfl, rfl, rfl, by decide +kernel, rfl, by decide +kernel, by decide +kernel⟩
theorem sc__law_no_row : FnScope ["row", "full", "cell", "way"] ["row", "full", "cell"] (defScope s__law_no_row) := ⟨rfl, rfl, rfl, by decide +kernel, rfl, by decide +kernel, by decide +kernel⟩
theorem sc_Row_ask : FnScope ["self", "place", "many"] ["self", "place", "many"] (defScope s_Row_ask) := ⟨rfl, rfl, rfl, by decide +kernel, rfl, by decide +kernel, by decide +kernel⟩
theorem sc_Row_set_at : FnScope ["self", "place", "number"] ["self", "place", "number"] (defScope s_Row_set_at) := ⟨rfl, rfl, rfl, by decide +kernel, rfl, by decide +kernel, by decide +kernel⟩
theorem sc_Row_take_out : FnScope ["self", "place"] ["self", "place"] (defScope s_Row_take_out) := ⟨rfl, rfl, rfl, by decide +kernel, rfl, by decide +kernel, by decide +kernel⟩
theorem sc_Row_cut : FnScope ["self", "place"] ["self", "place"] (defScope s_Row_cut) := ⟨rfl, rfl, rfl, by decide +kernel, rfl, by decide +kernel, by decide +kernel⟩
theorem sc__law_no_place : FnScope ["row", "cell", "far", "way", "place"] ["row", "cell", "far"] (defScope s__law_no_place) := ⟨rfl, rfl, rfl, by decide +kernel, rfl, by decide +kernel, by decide +kernel⟩
theorem sc_Row_ask_stretch : FnScope ["self", "first", "behind"] ["self", "first", "behind"] (defScope s_Row_ask_stretch) := ⟨rfl, rfl, rfl, by decide +kernel, rfl, by decide +kernel, by decide +kernel⟩
theorem sc_least : FnScope ["row", "first", "behind", "numbers", "low"] ["row", "first", "behind"] (defScope s_least) := ⟨rfl, rfl, rfl, by decide +kernel, rfl, by decide +kernel, by decide +kernel⟩
theorem sc_Row_add_to : FnScope ["self", "first", "behind", "number", "place"] ["self", "first", "behind", "number"] (defScope s_Row_add_to) := ⟨rfl, rfl, rfl, by decide +kernel, rfl, by decide +kernel, by decide +kernel⟩
theorem sc__law_no_stretch : FnScope ["row", "cell", "far", "some", "pair"] ["row", "cell", "far"] (defScope s__law_no_stretch) := ⟨rfl, rfl, rfl, by decide +kernel, rfl, by decide +kernel, by decide +kernel⟩
theorem sc_over : FnScope ["numbers", "first", "behind", "top", "found", "head"] ["numbers", "first", "behind", "top", "found"] (defScope s_over) := ⟨rfl, rfl, rfl, by decide +kernel, rfl, by decide +kernel, by decide +kernel⟩
theorem sc_tree_over : FnScope ["numbers", "found"] ["numbers"] (defScope s_tree_over) := ⟨rfl, rfl, rfl, by decide +kernel, rfl, by decide +kernel, by decide +kernel⟩
theorem sc_depths : FnScope ["some", "found", "place", "at", "deep"] ["some"] (defScope s_depths) := ⟨rfl, rfl, rfl, by decide +kernel, rfl, by decide +kernel, by decide +kernel⟩
theorem sc_is_tree : FnScope ["some", "found"] ["some"] (defScope s_is_tree) := ⟨rfl, rfl, rfl, by decide +kernel, rfl, by decide +kernel, by decide +kernel⟩
theorem sc_ask_tree : FnScope ["tree"] ["tree"] (defScope s_ask_tree) := ⟨rfl, rfl, rfl, by decide +kernel, rfl, by decide +kernel, by decide +kernel⟩
theorem sc_tree_number : FnScope ["tree"] ["tree"] (defScope s_tree_number) := ⟨rfl, rfl, rfl, by decide +kernel, rfl, by decide +kernel, by decide +kernel⟩
theorem sc_many_orders : FnScope ["tree"] ["tree"] (defScope s_many_orders) := ⟨rfl, rfl, rfl, by decide +kernel, rfl, by decide +kernel, by decide +kernel⟩
theorem sc_order_at : FnScope ["tree", "number", "many", "found"] ["tree", "number"] (defScope s_order_at) := ⟨rfl, rfl, rfl, by decide +kernel, rfl, by decide +kernel, by decide +kernel⟩
theorem sc_order_number : FnScope ["tree", "order"] ["tree", "order"] (defScope s_order_number) := ⟨rfl, rfl, rfl, by decide +kernel, rfl, by decide +kernel, by decide +kernel⟩
theorem sc__law_no_tree : FnScope ["cell", "far", "some", "tree", "way"] ["cell", "far"] (defScope s__law_no_tree) := ⟨rfl, rfl, rfl, by decide +kernel, rfl, by decide +kernel, by decide +kernel⟩
theorem sc__law_no_order : FnScope ["cell", "far", "some"] ["cell", "far"] (defScope s__law_no_order) := ⟨rfl, rfl, rfl, by decide +kernel, rfl, by decide +kernel, by decide +kernel⟩
theorem sc_many_trees : FnScope ["size"] ["size"] (defScope s_many_trees) := ⟨rfl, rfl, rfl, by decide +kernel, rfl, by decide +kernel, by decide +kernel⟩
theorem sc_tree_at : FnScope ["size", "number", "found"] ["size", "number"] (defScope s_tree_at) := ⟨rfl, rfl, rfl, by decide +kernel, rfl, by decide +kernel, by decide +kernel⟩
theorem sc_shapes : FnScope ["most", "found", "size", "top"] ["most"] (defScope s_shapes) := ⟨rfl, rfl, rfl, by decide +kernel, rfl, by decide +kernel, by decide +kernel⟩
theorem sc_picks : FnScope ["many", "size", "found", "k"] ["many", "size"] (defScope s_picks) := ⟨rfl, rfl, rfl, by decide +kernel, rfl, by decide +kernel, by decide +kernel⟩
theorem sc_head_of : FnScope ["tree", "first", "behind", "place"] ["tree", "first", "behind"] (defScope s_head_of) := ⟨rfl, rfl, rfl, by decide +kernel, rfl, by decide +kernel, by decide +kernel⟩
theorem sc_count : FnScope ["tree", "first", "behind", "head", "ways"] ["tree", "first", "behind"] (defScope s_count) := ⟨rfl, rfl, rfl, by decide +kernel, rfl, by decide +kernel, by decide +kernel⟩
theorem sc__law_no_number : FnScope ["cell", "far", "way", "some", "pair"] ["cell", "far"] (defScope s__law_no_number) := ⟨rfl, rfl, rfl, by decide +kernel, rfl, by decide +kernel, by decide +kernel⟩
theorem sc_ask_sky : FnScope ["numbers", "number"] ["numbers"] (defScope s_ask_sky) := ⟨rfl, rfl, rfl, by decide +kernel, rfl, by decide +kernel, by decide +kernel⟩
theorem sc_widest : FnScope ["row", "numbers", "found", "first", "low", "behind"] ["row"] (defScope s_widest) := ⟨rfl, rfl, rfl, by decide +kernel, rfl, by decide +kernel, by decide +kernel⟩
theorem sc_water : FnScope ["row", "numbers", "found", "place", "high"] ["row"] (defScope s_water) := ⟨rfl, rfl, rfl, by decide +kernel, rfl, by decide +kernel, by decide +kernel⟩
theorem sc__law_no_sky : FnScope ["cell", "far", "rows"] ["cell", "far"] (defScope s__law_no_sky) := ⟨rfl, rfl, rfl, by decide +kernel, rfl, by decide +kernel, by decide +kernel⟩
theorem sc__law_done : FnScope ["way", "cell", "far", "row", "full"] ["way", "cell", "far", "row", "full"] (defScope s__law_done) := ⟨rfl, rfl, rfl, by decide +kernel, rfl, by decide +kernel, by decide +kernel⟩
theorem sc__law_cell_at : FnScope ["script", "k"] ["script", "k"] (defScope s__law_cell_at) := ⟨rfl, rfl, rfl, by decide +kernel, rfl, by decide +kernel, by decide +kernel⟩
theorem sc__law_which : FnScope ["e", "first"] ["e"] (defScope s__law_which) := ⟨rfl, rfl, rfl, by decide +kernel, rfl, by decide +kernel, by decide +kernel⟩
theorem sc_law : FnScope ["script", "way", "far", "row", "full", "told", "e", "k"] ["script"] (defScope s_law) := ⟨rfl, rfl, rfl, by decide +kernel, rfl, by decide +kernel, by decide +kernel⟩
def sp_Row_numbers (_ : PySem.W.Frag) (C : Addr) : Sp := fun vs H Q _ => ∃ (p dx l : Addr) (ns : List Int), vs = [.ref p] ∧ H p = some (.ins C dx (rowF l)) ∧ H l = some (.lst (ns.map V.int)) ∧
  ∀ (a : Addr), H a = none → Q (.ref a) (upd H a (.lst (ns.map V.int)))
theorem ok_Row_numbers {f : Addr} {fd : FuncData} (F : Fun K "numbers" "Row.numbers" s_Row_numbers f fd) (T : Txt K mg C xa)  : FnOk P w K mg base CX0 1 f fd ["self"] (sp_Row_numbers K C) := by
  refine F.ok sc_Row_numbers (fun vs H Q E h => ?_) (fun cdv A outer s H vs Q E hr h => ?_)
  · obtain ⟨p, dx, l, ns, rfl, hp, hL, q⟩ := h
    rfl
  · obtain ⟨p, dx, l, ns, rfl, hp, hL, q⟩ := h
    have hcl := T.cl
    have hnK := T.nK
    refine ⟨_, (pss_one (ps_ret (pe_callTy c_listOf (by rfl) T.b_list (by decide +kernel) (pa_cons (pe_fld (pv 0) rfl) pa_nil)))), ?_⟩
    walk_at "go"
    refine r_listOf (VT.SqL.lst hL) fun a na => ?_
    exact q a na
def sp_X_Row___init__ (K : PySem.W.Frag) (C : Addr) (xa : XA) : Sp := fun vs H _ E => ∃ (x : V) (a : Addr) (ns : List Int), vs = [x, .ref a] ∧ SqL K H a (ns.map V.int) ∧ 40 < ns.length ∧ ∀ (H' : Hp), Same H H' → E (.ref xa.NoRow) none H'
theorem ok_X_Row___init__ {f : Addr} {fd : FuncData} (F : Fun K "__init__" "Row.__init__" s_Row___init__ f fd) (T : Txt K mg C xa)  : FnOk P w K mg base (L2.CX P w) 1 f fd ["self", "numbers"] (sp_X_Row___init__ K C xa) := by
  refine F.okX sc_Row___init__ (fun vs H Q E h => ?_) (fun cdv A outer s H vs Q E hr h => ?_)
  · obtain ⟨x, a, ns, rfl, hS, hl, q⟩ := h
    rfl
  · obtain ⟨x, a, ns, rfl, hS, hl, q⟩ := h
    have hcl := T.cl
    have hnK := T.nK
    refine ⟨_, (pss_cons (ps_if (pt_cmpR op_gt (pe_callB c_len (by rfl) T.b_len PySem.boot_len (pa_cons (pv 1) pa_nil)) (C8.pe_gc (v := .int 40) (by rfl) T.g_MOST) (nomark _)) (pss_one (ps_raise rfl (takes_of rfl rfl rfl rfl) (pmk_own PySem.F.excBase_ValueError T.x_NoRow T.g_NoRow T.kp_NoRow (raises_own T.su_NoRow T.ty_NoRow) (by exact rfl)))) pss_nil)
      (pss_one ps_never)), ?_⟩
    walk_at "gx"
    try rw [List.length_map]
    refine brT (by omega) ?_
    walk_at "gx"
    exact q H (Same.refl _)
/-- Row(..) of a list that is too long -/
theorem mk_rowX {K : PySem.W.Frag} {C a : Addr} {xa : XA} {ns : List Int} {H : Hp} {Q : V → Hp → Prop} {E : XK} (hS : SqL K H a (ns.map V.int)) (hl : 40 < ns.length) (q : ∀ (H' : Hp), Same H H' → E (.ref xa.NoRow) none H') :
    ∀ x dx, H x = none → H dx = none → dx ≠ x → sp_X_Row___init__ K C xa (.ref x :: ([.ref a] ++ [])) (upd (upd H dx (.own x)) x (.ins C dx [])) Q E := by
  intro x dx nx ndx nex
  have s0 : Same H (upd (upd H dx (.own x)) x (.ins C dx [])) := fun b o e => by
    rw [upd_ne (ne_of_none e nx), upd_ne (ne_of_none e ndx)]
    exact e
  exact ⟨.ref x, a, ns, rfl, s0.seq hS, hl, fun H' s => q H' (s0.trans s)⟩
def sp_Y_Row_put_in (_ : PySem.W.Frag) (C : Addr) (xa : XA) : Sp := fun vs H _ E => ∃ (p dx l : Addr) (ns : List Int) (y z : V), vs = [.ref p, y, z] ∧ H p = some (.ins C dx (rowF l)) ∧ H l = some (.lst (ns.map V.int)) ∧ ns.length = 40 ∧ ∀ (H' : Hp), Same H H' → E (.ref xa.NoRow) none H'
theorem ok_Y_Row_put_in {f : Addr} {fd : FuncData} (F : Fun K "put_in" "Row.put_in" s_Row_put_in f fd) (T : Txt K mg C xa)  : FnOk P w K mg base (L2.CX P w) 1 f fd ["self", "place", "number"] (sp_Y_Row_put_in K C xa) := by
  refine F.okX sc_Row_put_in (fun vs H Q E h => ?_) (fun cdv A outer s H vs Q E hr h => ?_)
  · obtain ⟨p, dx, l, ns, y, z, rfl, hp, hL, hn, q⟩ := h
    rfl
  · obtain ⟨p, dx, l, ns, y, z, rfl, hp, hL, hn, q⟩ := h
    have hcl := T.cl
    have hnK := T.nK
    refine ⟨_, (pss_cons (ps_if (pt_cmpR op_eq (pe_callB c_len (by rfl) T.b_len PySem.boot_len (pa_cons (pe_fld (pv 0) rfl) pa_nil)) (C8.pe_gc (v := .int 40) (by rfl) T.g_MOST) (nomark _)) (pss_one (ps_raise rfl (takes_of rfl rfl rfl rfl) (pmk_own PySem.F.excBase_ValueError T.x_NoRow T.g_NoRow T.kp_NoRow (raises_own T.su_NoRow T.ty_NoRow) (by exact rfl)))) pss_nil)
      (pss_cons ps_never
      (pss_one ps_never))), ?_⟩
    walk_at "gx"
    try rw [List.length_map]
    refine brT (by omega) ?_
    walk_at "gx"
    exact q H (Same.refl _)
def sp_X_joined (_ : PySem.W.Frag) (C : Addr) (xa : XA) : Sp := fun vs H _ E => ∃ (p dx l p' dx' l' : Addr) (ns ms : List Int), vs = [.ref p, .ref p'] ∧ H p = some (.ins C dx (rowF l)) ∧ H l = some (.lst (ns.map V.int)) ∧ H p' = some (.ins C dx' (rowF l')) ∧ H l' = some (.lst (ms.map V.int)) ∧ 40 < ns.length + ms.length ∧ ns.length + ms.length ≤ 100 ∧ ∀ (H' : Hp), Same H H' → E (.ref xa.NoRow) none H'
theorem ok_X_joined {f : Addr} {fd : FuncData} (F : Fun K "joined" "joined" s_joined f fd) (T : Txt K mg C xa) (c_X_Row : MakX P w K mg base 1 "Row" C (sp_X_Row___init__ K C xa)) (c_Row_numbers : C8.Met P w K mg base 1 C "numbers" (sp_Row_numbers K C) []) : FnOk P w K mg base (L2.CX P w) 3 f fd ["one", "other"] (sp_X_joined K C xa) := by
  refine F.okX sc_joined (fun vs H Q E h => ?_) (fun cdv A outer s H vs Q E hr h => ?_)
  · obtain ⟨p, dx, l, p', dx', l', ns, ms, rfl, hp, hL, hp', hL', hn, hn', q⟩ := h
    rfl
  · obtain ⟨p, dx, l, p', dx', l', ns, ms, rfl, hp, hL, hp', hL', hn, hn', q⟩ := h
    have hcl := T.cl
    have hnK := T.nK
    refine ⟨_, (pss_one (ps_ret (pe_kX c_X_Row hr (by decide) rfl (passes_call (takes_of rfl rfl rfl rfl) (fun _ _ _ _ h => h)) (pa_cons (pe_op op_cat (C8.pe_mt0 c_Row_numbers hr (by decide) (pv 0)) (C8.pe_mt0 c_Row_numbers hr (by decide) (pv 1))) pa_nil)))), ?_⟩
    walk_at "gx"
    refine ⟨p, dx, l, ns, rfl, hp, hL, fun a na => ?_⟩
    have sA := same_new na (.lst (ns.map V.int))
    have hpA := sA _ _ hp'
    have hLA := sA _ _ hL'
    walk_at "gx"
    refine ⟨p', dx', l', ms, rfl, hpA, hLA, fun b nb => ?_⟩
    have sB := same_new nb (.lst (ms.map V.int))
    walk_at "gx"
    refine r_catN (sB _ _ upd_same) upd_same (by rw [List.length_map, List.length_map]; omega) fun c H1 nc s1 hc => ?_
    rw [← List.map_append] at hc
    walk_at "gx"
    exact mk_rowX (Q := fun _ _ => True) (VT.SqL.lst hc) (by rw [List.length_append]; exact hn) fun H' s => q H' (((sA.trans sB).trans s1).trans s)
def sp_X__law_no_row (_ : PySem.W.Frag) (C : Addr) (xa : XA) : Sp := fun vs H _ E => ∃ (p dx l p' dx' l' : Addr) (ns ms : List Int) (c : Int), vs = [.ref p, .ref p', .int c] ∧ H p = some (.ins C dx (rowF l)) ∧ H l = some (.lst (ns.map V.int)) ∧ ns.length = 3 ∧ H p' = some (.ins C dx' (rowF l')) ∧ H l' = some (.lst (ms.map V.int)) ∧ ms.length = 40 ∧ ∀ (H' : Hp), Same H H' → E (.ref xa.NoRow) none H'
theorem ok_X__law_no_row {f : Addr} {fd : FuncData} (F : Fun K "_law_no_row" "_law_no_row" s__law_no_row f fd) (T : Txt K mg C xa) (c_X_Row : MakX P w K mg base 1 "Row" C (sp_X_Row___init__ K C xa)) (c_Y_Row_put_in : MetX P w K mg base 1 C "put_in" (sp_Y_Row_put_in K C xa)) (c_X_joined : CalX P w K mg base 3 "joined" (sp_X_joined K C xa)) : FnOk P w K mg base (L2.CX P w) 4 f fd ["row", "full", "cell"] (sp_X__law_no_row K C xa) := by
  refine F.okX sc__law_no_row (fun vs H Q E h => ?_) (fun cdv A outer s H vs Q E hr h => ?_)
  · obtain ⟨p, dx, l, p', dx', l', ns, ms, c, rfl, hp, hL, hn, hp', hL', hm, q⟩ := h
    rfl
  · obtain ⟨p, dx, l, p', dx', l', ns, ms, c, rfl, hp, hL, hn, hp', hL', hm, q⟩ := h
    have hcl := T.cl
    have hnK := T.nK
    refine ⟨_, (pss_cons (ps_set (i := 3) sc__law_no_row.nd rfl (by first | exact Or.inl rfl | exact Or.inr rfl) (pe_op op_mod (pv 2) pe_int))
      (pss_one (ps_if (pt_cmpR op_eq (pv 3) pe_int (nomark _)) (pss_one (ps_expr (pe_kX c_X_Row hr (by decide) rfl (passes_call (takes_of rfl rfl rfl rfl) (fun _ _ _ _ h => h)) (pa_cons (pe_op op_rep (pe_lst (pa_cons pe_int pa_nil)) (pe_op op_add pe_int (pe_op op_mod (pe_op op_fdiv (pv 2) pe_int) pe_int))) pa_nil)))) (pss_one (ps_if (pt_cmpR op_eq (pv 3) pe_int (nomark _)) (pss_one (ps_expr (pe_mX c_Y_Row_put_in hr (by decide) (passes_call (takes_of rfl rfl rfl rfl) (fun _ _ _ _ h => h)) (pv 1) (pa_cons (pe_ix ix_list (pe_lst (pa_cons pe_int (pa_cons pe_int (pa_cons pe_int (pa_cons (pe_un un_neg pe_int) pa_nil))))) (pe_op op_mod (pe_op op_fdiv (pv 2) pe_int) pe_int) (fun _ _ => rfl)) (pa_cons pe_int pa_nil))))) (pss_one (ps_if (pt_cmpR op_eq (pv 3) pe_int (nomark _)) (pss_one (ps_expr (pe_cX c_X_joined hr (by decide) rfl (takes_of rfl rfl rfl rfl) (pa_cons (pv 1) (pa_cons (pv 0) pa_nil))))) (pss_one (ps_expr (pe_cX c_X_joined hr (by decide) rfl (takes_of rfl rfl rfl rfl) (pa_cons (pv 0) (pa_cons (pv 1) pa_nil)))))))))))), ?_⟩
    walk_at "gx"
    have z0 := Int.emod_nonneg (c / 4) (show (20 : Int) ≠ 0 by decide)
    have z1 := Int.emod_lt_of_pos (c / 4) (show (0 : Int) < 20 by decide)
    have y0 := Int.emod_nonneg (c / 4) (show (4 : Int) ≠ 0 by decide)
    have y1 := Int.emod_lt_of_pos (c / 4) (show (0 : Int) < 4 by decide)
    refine brD (fun c1 => ?_) (fun c1 => ?_)
    · walk_at "gx"
      intro a H1 na s1 ha
      walk_at "gx"
      generalize c / 4 % 20 = k at z0 z1
      refine r_rep1 ha (by omega) (by omega) fun b H2 nb s2 hb => ?_
      have hb' : H2 b = some (.lst ((List.replicate (41 + k).toNat (5 : Int)).map V.int)) := by
        rw [hb, List.map_replicate]
      walk_at "gx"
      exact mk_rowX (Q := fun _ _ => True) (VT.SqL.lst hb') (by rw [List.length_replicate]; omega) fun H' s => q H' ((s1.trans s2).trans s)
    walk_at "gx"
    refine brD (fun c2 => ?_) (fun c2 => ?_)
    · walk_at "gx"
      intro a H1 na s1 ha
      walk_at "gx"
      obtain ⟨v, hv, _⟩ := AllV.pick (P := fun _ => True) (vs := [V.int 0, V.int 40, V.int 41, V.int (-1)]) (i := c / 4 % 4) (.cons trivial (.cons trivial (.cons trivial (.cons trivial .nil)))) y0 y1
      try refine r_ixL (VT.SqL.lst ha) hv ?_
      walk_at "gx"
      exact ⟨p', dx', l', ms, v, .int 5, rfl, s1 _ _ hp', s1 _ _ hL', hm, fun H' s => q H' (s1.trans s)⟩
    walk_at "gx"
    refine brD (fun c3 => ?_) (fun c3 => ?_)
    · walk_at "gx"
      exact ⟨p', dx', l', p, dx, l, ms, ns, rfl, hp', hL', hp, hL, by omega, by omega, q⟩
    walk_at "gx"
    exact ⟨p, dx, l, p', dx', l', ns, ms, rfl, hp, hL, hp', hL', by omega, by omega, q⟩
def sp_X_Row_ask (_ : PySem.W.Frag) (_ : Addr) (xa : XA) : Sp := fun vs H _ E => ∃ (x : V) (i m : Int), vs = [x, .int i, .int m] ∧ ¬ (0 ≤ i ∧ i < m) ∧ ∀ (H' : Hp), Same H H' → E (.ref xa.NoPlace) none H'
theorem ok_X_Row_ask {f : Addr} {fd : FuncData} (F : Fun K "ask" "Row.ask" s_Row_ask f fd) (T : Txt K mg C xa)  : FnOk P w K mg base (L2.CX P w) 1 f fd ["self", "place", "many"] (sp_X_Row_ask K C xa) := by
  refine F.okX sc_Row_ask (fun vs H Q E h => ?_) (fun cdv A outer s H vs Q E hr h => ?_)
  · obtain ⟨x, i, m, rfl, hno, q⟩ := h
    rfl
  · obtain ⟨x, i, m, rfl, hno, q⟩ := h
    have hcl := T.cl
    have hnK := T.nK
    refine ⟨_, (pss_one (ps_if (pt_not (pt_chain op_le op_lt pe_int (pv 1) (pv 2))) (pss_one (ps_raise rfl (takes_of rfl rfl rfl rfl) (pmk_own PySem.F.excBase_ValueError T.x_NoPlace T.g_NoPlace T.kp_NoPlace (raises_own T.su_NoPlace T.ty_NoPlace) (by exact rfl)))) pss_nil)), ?_⟩
    walk_at "gx"
    refine brD (fun c => ?_) (fun c => ?_)
    · walk_at "gx"
      refine brNT (by omega) ?_
      walk_at "gx"
      exact q H (Same.refl _)
    · walk_at "gx"
      refine br_nf ?_
      walk_at "gx"
      exact q H (Same.refl _)
def sp_X_Row_set_at (_ : PySem.W.Frag) (C : Addr) (xa : XA) : Sp := fun vs H _ E => ∃ (p dx l : Addr) (ns : List Int) (i : Int) (z : V), vs = [.ref p, .int i, z] ∧ H p = some (.ins C dx (rowF l)) ∧ H l = some (.lst (ns.map V.int)) ∧ ns.length < 40 ∧ ¬ (0 ≤ i ∧ i < (ns.length : Int)) ∧ ∀ (H' : Hp), Same H H' → E (.ref xa.NoPlace) none H'
theorem ok_X_Row_set_at {f : Addr} {fd : FuncData} (F : Fun K "set_at" "Row.set_at" s_Row_set_at f fd) (T : Txt K mg C xa) (c_X_Row_ask : MetX P w K mg base 1 C "ask" (sp_X_Row_ask K C xa)) : FnOk P w K mg base (L2.CX P w) 2 f fd ["self", "place", "number"] (sp_X_Row_set_at K C xa) := by
  refine F.okX sc_Row_set_at (fun vs H Q E h => ?_) (fun cdv A outer s H vs Q E hr h => ?_)
  · obtain ⟨p, dx, l, ns, i, z, rfl, hp, hL, hn, hno, q⟩ := h
    rfl
  · obtain ⟨p, dx, l, ns, i, z, rfl, hp, hL, hn, hno, q⟩ := h
    have hcl := T.cl
    have hnK := T.nK
    refine ⟨_, (pss_cons (ps_expr (pe_mX c_X_Row_ask hr (by decide) (passes_call (takes_of rfl rfl rfl rfl) (fun _ _ _ _ h => h)) (pv 0) (pa_cons (pv 1) (pa_cons (pe_callB c_len (by rfl) T.b_len PySem.boot_len (pa_cons (pe_fld (pv 0) rfl) pa_nil)) pa_nil))))
      (pss_one ps_never)), ?_⟩
    walk_at "gx"
    refine ⟨_, _, _, rfl, by omega, fun H' s => q H' s⟩
def sp_X_Row_take_out (_ : PySem.W.Frag) (C : Addr) (xa : XA) : Sp := fun vs H _ E => ∃ (p dx l : Addr) (ns : List Int) (i : Int), vs = [.ref p, .int i] ∧ H p = some (.ins C dx (rowF l)) ∧ H l = some (.lst (ns.map V.int)) ∧ ns.length < 40 ∧ ¬ (0 ≤ i ∧ i < (ns.length : Int)) ∧ ∀ (H' : Hp), Same H H' → E (.ref xa.NoPlace) none H'
theorem ok_X_Row_take_out {f : Addr} {fd : FuncData} (F : Fun K "take_out" "Row.take_out" s_Row_take_out f fd) (T : Txt K mg C xa) (c_X_Row_ask : MetX P w K mg base 1 C "ask" (sp_X_Row_ask K C xa)) : FnOk P w K mg base (L2.CX P w) 2 f fd ["self", "place"] (sp_X_Row_take_out K C xa) := by
  refine F.okX sc_Row_take_out (fun vs H Q E h => ?_) (fun cdv A outer s H vs Q E hr h => ?_)
  · obtain ⟨p, dx, l, ns, i, rfl, hp, hL, hn, hno, q⟩ := h
    rfl
  · obtain ⟨p, dx, l, ns, i, rfl, hp, hL, hn, hno, q⟩ := h
    have hcl := T.cl
    have hnK := T.nK
    refine ⟨_, (pss_cons (ps_expr (pe_mX c_X_Row_ask hr (by decide) (passes_call (takes_of rfl rfl rfl rfl) (fun _ _ _ _ h => h)) (pv 0) (pa_cons (pv 1) (pa_cons (pe_callB c_len (by rfl) T.b_len PySem.boot_len (pa_cons (pe_fld (pv 0) rfl) pa_nil)) pa_nil))))
      (pss_one ps_never)), ?_⟩
    walk_at "gx"
    refine ⟨_, _, _, rfl, by omega, fun H' s => q H' s⟩
def sp_X_Row_put_in (_ : PySem.W.Frag) (C : Addr) (xa : XA) : Sp := fun vs H _ E => ∃ (p dx l : Addr) (ns : List Int) (i : Int) (z : V), vs = [.ref p, .int i, z] ∧ H p = some (.ins C dx (rowF l)) ∧ H l = some (.lst (ns.map V.int)) ∧ ns.length < 40 ∧ ¬ (0 ≤ i ∧ i < (ns.length : Int) + 1) ∧ ∀ (H' : Hp), Same H H' → E (.ref xa.NoPlace) none H'
theorem ok_X_Row_put_in {f : Addr} {fd : FuncData} (F : Fun K "put_in" "Row.put_in" s_Row_put_in f fd) (T : Txt K mg C xa) (c_X_Row_ask : MetX P w K mg base 1 C "ask" (sp_X_Row_ask K C xa)) : FnOk P w K mg base (L2.CX P w) 2 f fd ["self", "place", "number"] (sp_X_Row_put_in K C xa) := by
  refine F.okX sc_Row_put_in (fun vs H Q E h => ?_) (fun cdv A outer s H vs Q E hr h => ?_)
  · obtain ⟨p, dx, l, ns, i, z, rfl, hp, hL, hn, hno, q⟩ := h
    rfl
  · obtain ⟨p, dx, l, ns, i, z, rfl, hp, hL, hn, hno, q⟩ := h
    have hcl := T.cl
    have hnK := T.nK
    refine ⟨_, (pss_cons (ps_if (pt_cmpR op_eq (pe_callB c_len (by rfl) T.b_len PySem.boot_len (pa_cons (pe_fld (pv 0) rfl) pa_nil)) (C8.pe_gc (v := .int 40) (by rfl) T.g_MOST) (nomark _)) (pss_one ps_never) pss_nil)
      (pss_cons (ps_expr (pe_mX c_X_Row_ask hr (by decide) (passes_call (takes_of rfl rfl rfl rfl) (fun _ _ _ _ h => h)) (pv 0) (pa_cons (pv 1) (pa_cons (pe_op op_add (pe_callB c_len (by rfl) T.b_len PySem.boot_len (pa_cons (pe_fld (pv 0) rfl) pa_nil)) pe_int) pa_nil))))
      (pss_one ps_never))), ?_⟩
    walk_at "gx"
    try rw [List.length_map]
    refine brF (by omega) ?_
    walk_at "gx"
    refine ⟨_, _, _, rfl, by omega, fun H' s => q H' s⟩
def sp_X_Row_cut (_ : PySem.W.Frag) (C : Addr) (xa : XA) : Sp := fun vs H _ E => ∃ (p dx l : Addr) (ns : List Int) (i : Int), vs = [.ref p, .int i] ∧ H p = some (.ins C dx (rowF l)) ∧ H l = some (.lst (ns.map V.int)) ∧ ns.length < 40 ∧ ¬ (0 ≤ i ∧ i < (ns.length : Int) + 1) ∧ ∀ (H' : Hp), Same H H' → E (.ref xa.NoPlace) none H'
theorem ok_X_Row_cut {f : Addr} {fd : FuncData} (F : Fun K "cut" "Row.cut" s_Row_cut f fd) (T : Txt K mg C xa) (c_X_Row_ask : MetX P w K mg base 1 C "ask" (sp_X_Row_ask K C xa)) : FnOk P w K mg base (L2.CX P w) 2 f fd ["self", "place"] (sp_X_Row_cut K C xa) := by
  refine F.okX sc_Row_cut (fun vs H Q E h => ?_) (fun cdv A outer s H vs Q E hr h => ?_)
  · obtain ⟨p, dx, l, ns, i, rfl, hp, hL, hn, hno, q⟩ := h
    rfl
  · obtain ⟨p, dx, l, ns, i, rfl, hp, hL, hn, hno, q⟩ := h
    have hcl := T.cl
    have hnK := T.nK
    refine ⟨_, (pss_cons (ps_expr (pe_mX c_X_Row_ask hr (by decide) (passes_call (takes_of rfl rfl rfl rfl) (fun _ _ _ _ h => h)) (pv 0) (pa_cons (pv 1) (pa_cons (pe_op op_add (pe_callB c_len (by rfl) T.b_len PySem.boot_len (pa_cons (pe_fld (pv 0) rfl) pa_nil)) pe_int) pa_nil))))
      (pss_one ps_never)), ?_⟩
    walk_at "gx"
    refine ⟨_, _, _, rfl, by omega, fun H' s => q H' s⟩
def sp_X__law_no_place (_ : PySem.W.Frag) (C : Addr) (xa : XA) : Sp := fun vs H _ E => ∃ (p dx l : Addr) (ns : List Int) (c f : Int), vs = [.ref p, .int c, .int f] ∧ H p = some (.ins C dx (rowF l)) ∧ H l = some (.lst (ns.map V.int)) ∧ ns.length = 3 ∧ 0 ≤ f ∧ ∀ (H' : Hp), Same H H' → E (.ref xa.NoPlace) none H'
theorem ok_X__law_no_place {f : Addr} {fd : FuncData} (F : Fun K "_law_no_place" "_law_no_place" s__law_no_place f fd) (T : Txt K mg C xa) (c_X_Row_set_at : MetX P w K mg base 2 C "set_at" (sp_X_Row_set_at K C xa)) (c_X_Row_take_out : MetX P w K mg base 2 C "take_out" (sp_X_Row_take_out K C xa)) (c_X_Row_put_in : MetX P w K mg base 2 C "put_in" (sp_X_Row_put_in K C xa)) (c_X_Row_cut : MetX P w K mg base 2 C "cut" (sp_X_Row_cut K C xa)) : FnOk P w K mg base (L2.CX P w) 3 f fd ["row", "cell", "far"] (sp_X__law_no_place K C xa) := by
  refine F.okX sc__law_no_place (fun vs H Q E h => ?_) (fun cdv A outer s H vs Q E hr h => ?_)
  · obtain ⟨p, dx, l, ns, c, f, rfl, hp, hL, hn, hf, q⟩ := h
    rfl
  · obtain ⟨p, dx, l, ns, c, f, rfl, hp, hL, hn, hf, q⟩ := h
    have hcl := T.cl
    have hnK := T.nK
    refine ⟨_, (pss_cons (ps_set (i := 3) sc__law_no_place.nd rfl (by first | exact Or.inl rfl | exact Or.inr rfl) (pe_op op_mod (pv 1) pe_int))
      (pss_cons (ps_set (i := 4) sc__law_no_place.nd rfl (by first | exact Or.inl rfl | exact Or.inr rfl) (pe_ix ix_list (pe_lst (pa_cons (pe_op op_sub (pe_un un_neg pe_int) (pv 2)) (pa_cons pe_int (pa_cons (pe_op op_add pe_int (pv 2)) pa_nil)))) (pe_op op_mod (pe_op op_fdiv (pv 1) pe_int) pe_int) (fun _ _ => rfl)))
      (pss_one (ps_if (pt_cmpR op_eq (pv 3) pe_int (nomark _)) (pss_one (ps_expr (pe_mX c_X_Row_set_at hr (by decide) (passes_call (takes_of rfl rfl rfl rfl) (fun _ _ _ _ h => h)) (pv 0) (pa_cons (pv 4) (pa_cons pe_int pa_nil))))) (pss_one (ps_if (pt_cmpR op_eq (pv 3) pe_int (nomark _)) (pss_one (ps_expr (pe_mX c_X_Row_take_out hr (by decide) (passes_call (takes_of rfl rfl rfl rfl) (fun _ _ _ _ h => h)) (pv 0) (pa_cons (pv 4) pa_nil)))) (pss_one (ps_if (pt_cmpR op_eq (pv 3) pe_int (nomark _)) (pss_one (ps_expr (pe_mX c_X_Row_put_in hr (by decide) (passes_call (takes_of rfl rfl rfl rfl) (fun _ _ _ _ h => h)) (pv 0) (pa_cons (pe_ix ix_list (pe_lst (pa_cons (pe_op op_sub (pe_un un_neg pe_int) (pv 2)) (pa_cons pe_int (pa_cons (pe_op op_add pe_int (pv 2)) pa_nil)))) (pe_op op_mod (pe_op op_fdiv (pv 1) pe_int) pe_int) (fun _ _ => rfl)) (pa_cons pe_int pa_nil))))) (pss_one (ps_expr (pe_mX c_X_Row_cut hr (by decide) (passes_call (takes_of rfl rfl rfl rfl) (fun _ _ _ _ h => h)) (pv 0) (pa_cons (pe_ix ix_list (pe_lst (pa_cons (pe_op op_sub (pe_un un_neg pe_int) (pv 2)) (pa_cons pe_int (pa_cons (pe_op op_add pe_int (pv 2)) pa_nil)))) (pe_op op_mod (pe_op op_fdiv (pv 1) pe_int) pe_int) (fun _ _ => rfl)) pa_nil)))))))))))), ?_⟩
    have y0 := Int.emod_nonneg (c / 4) (show (3 : Int) ≠ 0 by decide)
    have y1 := Int.emod_lt_of_pos (c / 4) (show (0 : Int) < 3 by decide)
    walk_at "gx"
    intro a H1 na s1 ha
    walk_at "gx"
    obtain ⟨v, hv, i, rfl, hi⟩ := AllV.pick (P := fun v => ∃ i : Int, v = .int i ∧ ¬ (0 ≤ i ∧ i < 3)) (vs := [V.int (-1 - f), V.int 3, V.int (3 + f)]) (i := c / 4 % 3) (.cons ⟨_, rfl, by omega⟩ (.cons ⟨_, rfl, by omega⟩ (.cons ⟨_, rfl, by omega⟩ .nil))) y0 y1
    try refine r_ixL (VT.SqL.lst ha) hv ?_
    have hp1 := s1 _ _ hp
    have hL1 := s1 _ _ hL
    walk_at "gx"
    refine brD (fun c1 => ?_) (fun c1 => ?_)
    · walk_at "gx"
      exact ⟨p, dx, l, ns, i, .int 1, rfl, hp1, hL1, by omega, by omega, fun H' s => q H' (s1.trans s)⟩
    walk_at "gx"
    refine brD (fun c2 => ?_) (fun c2 => ?_)
    · walk_at "gx"
      exact ⟨p, dx, l, ns, i, rfl, hp1, hL1, by omega, by omega, fun H' s => q H' (s1.trans s)⟩
    obtain ⟨v, hv, j, rfl, hj⟩ := AllV.pick (P := fun v => ∃ i : Int, v = .int i ∧ ¬ (0 ≤ i ∧ i < 4)) (vs := [V.int (-1 - f), V.int 4, V.int (4 + f)]) (i := c / 4 % 3) (.cons ⟨_, rfl, by omega⟩ (.cons ⟨_, rfl, by omega⟩ (.cons ⟨_, rfl, by omega⟩ .nil))) y0 y1
    walk_at "gx"
    refine brD (fun c3 => ?_) (fun c3 => ?_)
    · walk_at "gx"
      intro b H2 nb s2 hb
      have hp2 := s2 _ _ hp1
      have hL2 := s2 _ _ hL1
      walk_at "gx"
      try refine r_ixL (VT.SqL.lst hb) hv ?_
      walk_at "gx"
      exact ⟨p, dx, l, ns, j, .int 1, rfl, hp2, hL2, by omega, by omega, fun H' s => q H' ((s1.trans s2).trans s)⟩
    walk_at "gx"
    intro b H2 nb s2 hb
    have hp2 := s2 _ _ hp1
    have hL2 := s2 _ _ hL1
    walk_at "gx"
    try refine r_ixL (VT.SqL.lst hb) hv ?_
    walk_at "gx"
    exact ⟨p, dx, l, ns, j, rfl, hp2, hL2, by omega, by omega, fun H' s => q H' ((s1.trans s2).trans s)⟩
def sp_X_Row_ask_stretch (_ : PySem.W.Frag) (C : Addr) (xa : XA) : Sp := fun vs H _ E => ∃ (p dx l : Addr) (ns : List Int) (i j : Int), vs = [.ref p, .int i, .int j] ∧ H p = some (.ins C dx (rowF l)) ∧ H l = some (.lst (ns.map V.int)) ∧ ¬ (0 ≤ i ∧ i < j ∧ j ≤ (ns.length : Int)) ∧ ∀ (H' : Hp), Same H H' → E (.ref xa.NoStretch) none H'
theorem ok_X_Row_ask_stretch {f : Addr} {fd : FuncData} (F : Fun K "ask_stretch" "Row.ask_stretch" s_Row_ask_stretch f fd) (T : Txt K mg C xa)  : FnOk P w K mg base (L2.CX P w) 1 f fd ["self", "first", "behind"] (sp_X_Row_ask_stretch K C xa) := by
  refine F.okX sc_Row_ask_stretch (fun vs H Q E h => ?_) (fun cdv A outer s H vs Q E hr h => ?_)
  · obtain ⟨p, dx, l, ns, i, j, rfl, hp, hL, hno, q⟩ := h
    rfl
  · obtain ⟨p, dx, l, ns, i, j, rfl, hp, hL, hno, q⟩ := h
    have hcl := T.cl
    have hnK := T.nK
    refine ⟨_, (pss_one (ps_if (pt_not (pt_chain3 op_le op_lt op_le pe_int (pv 1) (pv 2) (pe_callB c_len (by rfl) T.b_len PySem.boot_len (pa_cons (pe_fld (pv 0) rfl) pa_nil)))) (pss_one (ps_raise rfl (takes_of rfl rfl rfl rfl) (pmk_own PySem.F.excBase_ValueError T.x_NoStretch T.g_NoStretch T.kp_NoStretch (raises_own T.su_NoStretch T.ty_NoStretch) (by exact rfl)))) pss_nil)), ?_⟩
    walk_at "gx"
    refine brD (fun c1 => ?_) (fun c1 => ?_)
    · walk_at "gx"
      refine brD (fun c2 => ?_) (fun c2 => ?_)
      · walk_at "gx"
        refine brNT (by omega) ?_
        walk_at "gx"
        exact q H (Same.refl _)
      · walk_at "gx"
        refine br_nf ?_
        walk_at "gx"
        exact q H (Same.refl _)
    · walk_at "gx"
      refine br_nf ?_
      walk_at "gx"
      exact q H (Same.refl _)
def sp_X_least (_ : PySem.W.Frag) (C : Addr) (xa : XA) : Sp := fun vs H _ E => ∃ (p dx l : Addr) (ns : List Int) (i j : Int), vs = [.ref p, .int i, .int j] ∧ H p = some (.ins C dx (rowF l)) ∧ H l = some (.lst (ns.map V.int)) ∧ ¬ (0 ≤ i ∧ i < j ∧ j ≤ (ns.length : Int)) ∧ ∀ (H' : Hp), Same H H' → E (.ref xa.NoStretch) none H'
theorem ok_X_least {f : Addr} {fd : FuncData} (F : Fun K "least" "least" s_least f fd) (T : Txt K mg C xa) (c_X_Row_ask_stretch : MetX P w K mg base 1 C "ask_stretch" (sp_X_Row_ask_stretch K C xa)) : FnOk P w K mg base (L2.CX P w) 2 f fd ["row", "first", "behind"] (sp_X_least K C xa) := by
  refine F.okX sc_least (fun vs H Q E h => ?_) (fun cdv A outer s H vs Q E hr h => ?_)
  · obtain ⟨p, dx, l, ns, i, j, rfl, hp, hL, hno, q⟩ := h
    rfl
  · obtain ⟨p, dx, l, ns, i, j, rfl, hp, hL, hno, q⟩ := h
    have hcl := T.cl
    have hnK := T.nK
    refine ⟨_, (pss_cons (ps_expr (pe_mX c_X_Row_ask_stretch hr (by decide) (passes_call (takes_of rfl rfl rfl rfl) (fun _ _ _ _ h => h)) (pv 0) (pa_cons (pv 1) (pa_cons (pv 2) pa_nil))))
      (pss_cons ps_never
      (pss_cons ps_never
      (pss_one ps_never)))), ?_⟩
    walk_at "gx"
    exact ⟨p, dx, l, ns, i, j, rfl, hp, hL, hno, q⟩
def sp_X_Row_add_to (_ : PySem.W.Frag) (C : Addr) (xa : XA) : Sp := fun vs H _ E => ∃ (p dx l : Addr) (ns : List Int) (i j : Int) (z : V), vs = [.ref p, .int i, .int j, z] ∧ H p = some (.ins C dx (rowF l)) ∧ H l = some (.lst (ns.map V.int)) ∧ ¬ (0 ≤ i ∧ i < j ∧ j ≤ (ns.length : Int)) ∧ ∀ (H' : Hp), Same H H' → E (.ref xa.NoStretch) none H'
theorem ok_X_Row_add_to {f : Addr} {fd : FuncData} (F : Fun K "add_to" "Row.add_to" s_Row_add_to f fd) (T : Txt K mg C xa) (c_X_Row_ask_stretch : MetX P w K mg base 1 C "ask_stretch" (sp_X_Row_ask_stretch K C xa)) : FnOk P w K mg base (L2.CX P w) 2 f fd ["self", "first", "behind", "number"] (sp_X_Row_add_to K C xa) := by
  refine F.okX sc_Row_add_to (fun vs H Q E h => ?_) (fun cdv A outer s H vs Q E hr h => ?_)
  · obtain ⟨p, dx, l, ns, i, j, z, rfl, hp, hL, hno, q⟩ := h
    rfl
  · obtain ⟨p, dx, l, ns, i, j, z, rfl, hp, hL, hno, q⟩ := h
    have hcl := T.cl
    have hnK := T.nK
    refine ⟨_, (pss_cons (ps_expr (pe_mX c_X_Row_ask_stretch hr (by decide) (passes_call (takes_of rfl rfl rfl rfl) (fun _ _ _ _ h => h)) (pv 0) (pa_cons (pv 1) (pa_cons (pv 2) pa_nil))))
      (pss_one ps_never)), ?_⟩
    walk_at "gx"
    exact ⟨p, dx, l, ns, i, j, rfl, hp, hL, hno, q⟩
def sp_X__law_no_stretch (_ : PySem.W.Frag) (C : Addr) (xa : XA) : Sp := fun vs H _ E => ∃ (p dx l : Addr) (ns : List Int) (c f : Int), vs = [.ref p, .int c, .int f] ∧ H p = some (.ins C dx (rowF l)) ∧ H l = some (.lst (ns.map V.int)) ∧ ns.length = 3 ∧ 0 ≤ f ∧ ∀ (H' : Hp), Same H H' → E (.ref xa.NoStretch) none H'
theorem ok_X__law_no_stretch {f : Addr} {fd : FuncData} (F : Fun K "_law_no_stretch" "_law_no_stretch" s__law_no_stretch f fd) (T : Txt K mg C xa) (c_X_least : CalX P w K mg base 2 "least" (sp_X_least K C xa)) (c_X_Row_add_to : MetX P w K mg base 2 C "add_to" (sp_X_Row_add_to K C xa)) : FnOk P w K mg base (L2.CX P w) 3 f fd ["row", "cell", "far"] (sp_X__law_no_stretch K C xa) := by
  refine F.okX sc__law_no_stretch (fun vs H Q E h => ?_) (fun cdv A outer s H vs Q E hr h => ?_)
  · obtain ⟨p, dx, l, ns, c, f, rfl, hp, hL, hn, hf, q⟩ := h
    rfl
  · obtain ⟨p, dx, l, ns, c, f, rfl, hp, hL, hn, hf, q⟩ := h
    have hcl := T.cl
    have hnK := T.nK
    refine ⟨_, (pss_cons (ps_set (i := 3) sc__law_no_stretch.nd rfl (by first | exact Or.inl rfl | exact Or.inr rfl) (pe_lst (pa_cons (pe_tup (pa_cons (pe_op op_sub (pe_un un_neg pe_int) (pv 2)) (pa_cons pe_int pa_nil))) (pa_cons (pe_tup (pa_cons pe_int (pa_cons pe_int pa_nil))) (pa_cons (pe_tup (pa_cons pe_int (pa_cons pe_int pa_nil))) (pa_cons (pe_tup (pa_cons pe_int (pa_cons pe_int pa_nil))) pa_nil))))))
      (pss_cons (ps_set (i := 3) sc__law_no_stretch.nd rfl (by first | exact Or.inl rfl | exact Or.inr rfl) (pe_op op_cat (pv 3) (pe_lst (pa_cons (pe_tup (pa_cons pe_int (pa_cons (pe_op op_add pe_int (pv 2)) pa_nil))) (pa_cons (pe_tup (pa_cons pe_int (pa_cons pe_int pa_nil))) (pa_cons (pe_tup (pa_cons pe_int (pa_cons (pe_op op_sub (pe_un un_neg pe_int) (pv 2)) pa_nil))) (pa_cons (pe_tup (pa_cons (pe_un un_neg pe_int) (pa_cons (pe_un un_neg pe_int) pa_nil))) pa_nil)))))))
      (C8.pss_cut (ps_set (i := 4) sc__law_no_stretch.nd rfl (by first | exact Or.inl rfl | exact Or.inr rfl) (pe_ix ix_list (pv 3) (pe_op op_mod (pe_op op_fdiv (pv 1) pe_int) pe_int) (fun _ _ => rfl)))
      (pss_one (ps_if (pt_cmpR op_eq (pe_op op_mod (pv 1) pe_int) pe_int (nomark _)) (pss_one (ps_expr (pe_cX c_X_least hr (by decide) rfl (takes_of rfl rfl rfl rfl) (pa_cons (pv 0) (pa_cons (pe_ix ix_tup (pv 4) pe_int (fun _ _ => rfl)) (pa_cons (pe_ix ix_tup (pv 4) pe_int (fun _ _ => rfl)) pa_nil)))))) (pss_one (ps_expr (pe_mX c_X_Row_add_to hr (by decide) (passes_call (takes_of rfl rfl rfl rfl) (fun _ _ _ _ h => h)) (pv 0) (pa_cons (pe_ix ix_tup (pv 4) pe_int (fun _ _ => rfl)) (pa_cons (pe_ix ix_tup (pv 4) pe_int (fun _ _ => rfl)) (pa_cons pe_int pa_nil))))))))))), ?_⟩
    have y0 := Int.emod_nonneg (c / 2) (show (8 : Int) ≠ 0 by decide)
    have y1 := Int.emod_lt_of_pos (c / 2) (show (0 : Int) < 8 by decide)
    walk_at "gx"
    intro a1 H1 n1 s1 h1
    walk_at "gx"
    intro a2 H2 n2 s2 h2
    walk_at "gx"
    intro a3 H3 n3 s3 h3
    walk_at "gx"
    intro a4 H4 n4 s4 h4
    walk_at "gx"
    intro la H5 n5 s5 h5
    walk_at "gx"
    intro a6 H6 n6 s6 h6
    walk_at "gx"
    intro a7 H7 n7 s7 h7
    walk_at "gx"
    intro a8 H8 n8 s8 h8
    walk_at "gx"
    intro a9 H9 n9 s9 h9
    walk_at "gx"
    intro lb H10 n10 s10 h10
    walk_at "gx"
    refine r_catN (by walk_at "hp") h10 (Nat.le_of_ble_eq_true rfl) fun lc H11 n11 s11 h11 => ?_
    walk_at "gx"
    obtain ⟨v, hv, t, i, j, rfl, ht, hij⟩ := AllV.pick (P := fun v => ∃ (t : Addr) (i j : Int), v = .ref t ∧ H11 t = some (.tup [.int i, .int j]) ∧ ¬ (0 ≤ i ∧ i < j ∧ j ≤ 3)) (vs := [.ref a1, .ref a2, .ref a3, .ref a4, .ref a6, .ref a7, .ref a8, .ref a9]) (i := c / 2 % 8) (.cons ⟨a1, _, _, rfl, by walk_at "hp", by omega⟩ (.cons ⟨a2, _, _, rfl, by walk_at "hp", by omega⟩ (.cons ⟨a3, _, _, rfl, by walk_at "hp", by omega⟩ (.cons ⟨a4, _, _, rfl, by walk_at "hp", by omega⟩ (.cons ⟨a6, _, _, rfl, by walk_at "hp", by omega⟩ (.cons ⟨a7, _, _, rfl, by walk_at "hp", by omega⟩ (.cons ⟨a8, _, _, rfl, by walk_at "hp", by omega⟩ (.cons ⟨a9, _, _, rfl, by walk_at "hp", by omega⟩ .nil)))))))) y0 y1
    have sT : Same H H11 := ((((((((((s1.trans s2).trans s3).trans s4).trans s5).trans s6).trans s7).trans s8).trans s9).trans s10).trans s11)
    refine r_cut (fun σ' H' => ∃ (w : Option V), σ' = [some (.ref p), some (.int c), some (.int f), w, some (.ref t)] ∧ Same H H' ∧ H' t = some (.tup [.int i, .int j])) ?_ ?_
    · walk_at "gx"
      try refine r_ixL (VT.SqL.lst h11) hv ?_
      walk_at "gx"
      exact ⟨_, rfl, sT, ht⟩
    clear ht hv sT
    rintro σ' H' ⟨w, rfl, sT, ht⟩
    have hp1 := sT _ _ hp
    have hL1 := sT _ _ hL
    walk_at "gx"
    refine brD (fun c1 => ?_) (fun c1 => ?_)
    · walk_at "gx"
      exact ⟨p, dx, l, ns, i, j, rfl, hp1, hL1, by omega, fun H2 s => q H2 (sT.trans s)⟩
    walk_at "gx"
    exact ⟨p, dx, l, ns, i, j, .int 5, rfl, hp1, hL1, by omega, fun H2 s => q H2 (sT.trans s)⟩
def sp_over (K : PySem.W.Frag) (_ : Addr) (n : Nat) : Sp := fun vs H Q _ => ∃ (a f : Addr) (ns : List Int) (i j : Nat) (top : Option Nat) (xs : List V) (t : BT), vs = [.ref a, .int i, .int j, oV top, .ref f] ∧ SqL K H a (ns.map V.int) ∧ H f = some (.lst xs) ∧ a ≠ f ∧ xs.length = ns.length ∧ ns.length ≤ 63 ∧ j ≤ ns.length ∧ IsCart ns i j t ∧ j - i < n ∧
  ∀ H', But f H H' → H' f = some (.lst (splice xs i (t.codeV i top))) → Q .non H'
theorem ok_over {f : Addr} {fd : FuncData} {n : Nat} (F : Fun K "over" "over" s_over f fd) (T : Txt K mg C xa) (c_over : C8.Cal P w K mg base (0 + n) "over" (sp_over K C n) []) : FnOk P w K mg base CX0 (0 + n + 1) f fd ["numbers", "first", "behind", "top", "found"] (sp_over K C (n + 1)) := by
  refine F.ok sc_over (fun vs H Q E h => ?_) (fun cdv A outer s H vs Q E hr h => ?_)
  · obtain ⟨a, f, ns, i, j, top, xs, t, rfl, hS, hF, naf, hxl, hn, hj, hC, hlt, q⟩ := h
    rfl
  · obtain ⟨a, f, ns, i, j, top, xs, t, rfl, hS, hF, naf, hxl, hn, hj, hC, hlt, q⟩ := h
    have hcl := T.cl
    have hnK := T.nK
    refine ⟨_, (pss_one (ps_if (pt_cmpR op_lt (pv 1) (pv 2) (nomark _)) (pss_cons (ps_set (i := 5) sc_over.nd rfl (by first | exact Or.inl rfl | exact Or.inr rfl) (pe_bm PySem.F.plainAttrs_list PySem.F.slot_list_index PySem.F.type_list_index mt_index3 (pv 0) (pa_cons (pe_callB (cr_min rfl) (by rfl) T.b_min (by decide +kernel) (pa_cons (pe_slice sl_list (pv 0) (po_some (pv 1)) (po_some (pv 2))) pa_nil)) (pa_cons (pv 1) pa_nil))))
      (pss_cons (ps_asg (pv 3) (pg_sub (pv 4) (pv 5) set_list))
      (pss_cons (ps_expr (C8.pe_c c_over hr (by omega) rfl (pa_cons (pv 0) (pa_cons (pv 1) (pa_cons (pv 5) (pa_cons (pv 5) (pa_cons (pv 4) pa_nil)))))))
      (pss_one (ps_expr (C8.pe_c c_over hr (by omega) rfl (pa_cons (pv 0) (pa_cons (pe_op op_add (pv 5) pe_int) (pa_cons (pv 2) (pa_cons (pv 5) (pa_cons (pv 4) pa_nil))))))))))) pss_nil)), ?_⟩
    have hsz := hC.size
    walk_at "go"
    refine brD (fun c => ?_) (fun c => ?_)
    · walk_at "go"
      refine r_slL hS fun s ns' => ?_
      rw [cut_midI (by omega) (by omega) (by omega) (by omega), show ((i : Nat) : Int).toNat = i by omega, show ((j : Nat) : Int).toNat = j by omega]
      have sA := same_new ns' (.lst (((ns.drop i).take (j - i)).map V.int))
      have hS1 := sA.seq hS
      have hF1 := sA _ _ hF
      have hX := @upd_same H s (.lst (((ns.drop i).take (j - i)).map V.int))
      generalize upd H s (.lst (((ns.drop i).take (j - i)).map V.int)) = H1 at sA hS1 hF1 hX
      walk_at "go"
      refine r_min (VT.SqL.lst hX) (by rw [List.length_take, List.length_drop]; omega) fun m hm hle => ?_
      obtain ⟨h, hL, hno⟩ := least_of_min hm hle
      walk_at "go"
      have h1 := hL.lo
      have h2 := hL.hi
      refine r_index3 hS1 (by omega) (by omega) hL.val (fun l l1 l2 => hno l (by omega) l2) ?_
      walk_at "go"
      refine r_setV hF1 (by omega) (by omega) ?_
      rw [show ((h : Nat) : Int).toNat = h by omega]
      cases hC with
      | nil => omega
      | @node _ _ h' m' l r hm' hl hr =>
        obtain ⟨_, e⟩ := hm'.uniq hL
        subst e
        have hls := hl.size
        have hrs := hr.size
        have b1 : But f H (upd H1 f (.lst (xs.set h' (oV top)))) := (But.of sA).up
        have hS2 := b1.seq naf hS
        have hF2 := @upd_same H1 f (.lst (xs.set h' (oV top)))
        generalize upd H1 f (.lst (xs.set h' (oV top))) = H2 at b1 hS2 hF2
        walk_at "go"
        refine ⟨a, f, ns, i, h', some h', _, l, rfl, hS2, hF2, naf, by rw [List.length_set]; exact hxl, hn, by omega, hl, by omega, fun H3 b3 hF3 => ?_⟩
        walk_at "go"
        have b13 := b1.trans b3
        refine ⟨a, f, ns, h' + 1, j, some h', _, r, rfl, b13.seq naf hS, hF3, naf, by rw [splice_len (by rw [List.length_set, BT.codeV_len]; omega), List.length_set]; exact hxl, hn, hj, hr, by omega, fun H4 b4 hF4 => ?_⟩
        refine q H4 (b13.trans b4) ?_
        have e := splice_tree (xs := xs) (f := i) (l := l) (r := r) (top := top) (by show i + (l.size + 1 + r.size) ≤ _; omega)
        rw [hls] at e
        rw [hF4, e]
    · walk_at "go"
      cases hC with
      | nil =>
        refine q H (But.of (Same.refl _)) ?_
        show H f = some (.lst (splice xs i []))
        rw [splice_nil]
        exact hF
      | node hm' hl hr =>
        have h1 := hm'.lo
        have h2 := hm'.hi
        omega
theorem no_over {K : PySem.W.Frag} {C : Addr} : ∀ vs H Q E, ¬ sp_over K C 0 vs H Q E := by
  rintro vs H Q E ⟨a, f, ns, i, j, top, xs, t, rfl, hS, hF, naf, hxl, hn, hj, hC, hlt, q⟩
  omega
def sp_tree_over (K : PySem.W.Frag) (_ : Addr) : Sp := fun vs H Q _ => ∃ (a : Addr) (ns : List Int) (t : BT), vs = [.ref a] ∧ H a = some (.lst (ns.map V.int)) ∧ ns.length ≤ 40 ∧ IsCart ns 0 ns.length t ∧
  ∀ (x : Addr) (H' : Hp), H x = none → Same H H' → H' x = some (.lst (t.codeV 0 none)) → Q (.ref x) H'
theorem ok_tree_over {f : Addr} {fd : FuncData} (F : Fun K "tree_over" "tree_over" s_tree_over f fd) (T : Txt K mg C xa) (c_over : C8.Cal P w K mg base 42 "over" (sp_over K C 42) []) : FnOk P w K mg base CX0 43 f fd ["numbers"] (sp_tree_over K C) := by
  refine F.ok sc_tree_over (fun vs H Q E h => ?_) (fun cdv A outer s H vs Q E hr h => ?_)
  · obtain ⟨a, ns, t, rfl, hS, hn, hC, q⟩ := h
    rfl
  · obtain ⟨a, ns, t, rfl, hS, hn, hC, q⟩ := h
    have hcl := T.cl
    have hnK := T.nK
    refine ⟨_, (pss_cons (ps_set (i := 1) sc_tree_over.nd rfl (by first | exact Or.inl rfl | exact Or.inr rfl) (pe_op op_rep (pe_lst (pa_cons pe_non pa_nil)) (pe_callB c_len (by rfl) T.b_len PySem.boot_len (pa_cons (pv 0) pa_nil))))
      (pss_cons (ps_expr (C8.pe_c c_over hr (by decide) rfl (pa_cons (pv 0) (pa_cons pe_int (pa_cons (pe_callB c_len (by rfl) T.b_len PySem.boot_len (pa_cons (pv 0) pa_nil)) (pa_cons pe_non (pa_cons (pv 1) pa_nil)))))))
      (pss_one (ps_ret (pv 1))))), ?_⟩
    walk_at "go"
    intro e ne
    have sB := same_new ne (.lst [V.non])
    have hE := @upd_same H e (.lst [V.non])
    have hS1 := sB _ _ hS
    generalize upd H e (.lst [V.non]) = H1 at sB hE hS1
    walk_at "go"
    refine r_rep hE (by omega) (by omega) fun f nf => ?_
    have sC := same_new nf (.lst (List.replicate (ns.length : Int).toNat V.non))
    have naf : a ≠ f := ne_of_none hS1 nf
    have fr := sB.free nf
    have hF := @upd_same H1 f (.lst (List.replicate (ns.length : Int).toNat V.non))
    have hS2 := sC _ _ hS1
    have s2 := sB.trans sC
    generalize upd H1 f (.lst (List.replicate (ns.length : Int).toNat V.non)) = H2 at sC hF hS2 s2
    walk_at "go"
    refine ⟨a, f, ns, 0, ns.length, none, _, t, rfl, VT.SqL.lst hS2, hF, naf, by rw [List.length_replicate]; omega, by omega, Nat.le_refl _, hC, by omega, fun H3 b3 hF3 => ?_⟩
    walk_at "go"
    refine q f H3 fr (same_but s2 b3 fr) ?_
    have hs := hC.size
    rw [hF3, splice_all (by rw [BT.codeV_len, List.length_replicate]; omega)]
def sp_depths (_ : PySem.W.Frag) (_ : Addr) : Sp := fun vs H Q _ => ∃ (a : Addr) (xs : List V), vs = [.ref a] ∧ H a = some (.lst xs) ∧ xs.all okV = true ∧ xs.length ≤ 63 ∧ (depthsTo xs xs.length = none → ∀ H', Same H H' → Q .non H') ∧
  ∀ (ds : List Nat) (x : Addr) (H' : Hp), depthsTo xs xs.length = some ds → H x = none → Same H H' → H' x = some (.lst ((natI ds).map V.int)) → Q (.ref x) H'
theorem ok_depths {f : Addr} {fd : FuncData} (F : Fun K "depths" "depths" s_depths f fd) (T : Txt K mg C xa)  : FnOk P w K mg base CX0 1 f fd ["some"] (sp_depths K C) := by
  refine F.ok sc_depths (fun vs H Q E h => ?_) (fun cdv A outer s H vs Q E hr h => ?_)
  · obtain ⟨a, xs, rfl, hS, hok, hn, q0, q1⟩ := h
    rfl
  · obtain ⟨a, xs, rfl, hS, hok, hn, q0, q1⟩ := h
    have hcl := T.cl
    have hnK := T.nK
    refine ⟨_, (pss_cons (ps_set (i := 1) sc_depths.nd rfl (by first | exact Or.inl rfl | exact Or.inr rfl) (pe_lst pa_nil))
      (pss_cons (ps_for PassesOwn.never rfl (pi_range1 (by rfl) T.b_range (pa_cons (pe_callB c_len (by rfl) T.b_len PySem.boot_len (pa_cons (pv 0) pa_nil)) pa_nil)) (pg_name (i := 2) sc_depths.nd rfl (by first | exact Or.inl rfl | exact Or.inr rfl)) (pss_cons (ps_set (i := 3) sc_depths.nd rfl (by first | exact Or.inl rfl | exact Or.inr rfl) (pv 2))
      (pss_cons (ps_set (i := 4) sc_depths.nd rfl (by first | exact Or.inl rfl | exact Or.inr rfl) pe_int)
      (C8.pss_cut (ps_while PassesOwn.never (PW.pt (pw_and (pt_cmpR o_notN (pe_ix ix_list (pv 0) (pv 3) (fun _ _ => rfl)) pe_non (nomark _)) (pw_and1 (pt_cmpR op_le (pv 4) (pe_callB c_len (by rfl) T.b_len PySem.boot_len (pa_cons (pv 0) pa_nil)) (nomark _))))) (pss_cons (ps_if (pt_not (pt_chain op_le op_lt pe_int (pe_ix ix_list (pv 0) (pv 3) (fun _ _ => rfl)) (pe_callB c_len (by rfl) T.b_len PySem.boot_len (pa_cons (pv 0) pa_nil)))) (pss_one (ps_ret pe_non)) pss_nil)
      (pss_cons (ps_set (i := 3) sc_depths.nd rfl (by first | exact Or.inl rfl | exact Or.inr rfl) (pe_ix ix_list (pv 0) (pv 3) (fun _ _ => rfl)))
      (pss_one (ps_set (i := 4) sc_depths.nd rfl (by first | exact Or.inl rfl | exact Or.inr rfl) (pe_op op_add (pv 4) pe_int))))))
      (pss_one (ps_expr (pe_bm PySem.F.plainAttrs_list PySem.F.slot_list_append PySem.F.type_list_append mt_append (pv 1) (pa_cons (pv 4) pa_nil))))))))
      (pss_one (ps_ret (pv 1))))), ?_⟩
    walk_at "go"
    intro f nf
    have sA := same_new nf (.lst [])
    have hF := @upd_same H f (.lst [])
    generalize upd H f (.lst []) = H1 at sA hF
    have hS1 := sA _ _ hS
    walk_at "go"
    refine r_loop0 (fun i σ H' => ∃ (ds : List Nat) (v2 v3 v4 : Option V), σ = [some (.ref a), some (.ref f), v2, v3, v4] ∧ Same H H' ∧ depthsTo xs i = some ds ∧ H' f = some (.lst ((natI ds).map V.int))) ⟨[], _, _, _, rfl, sA, rfl, hF⟩ ?_ ?_
    · rintro i σ H2 hi ⟨ds, v2, v3, v4, rfl, s2, hD, hF2⟩
      have hil : i < xs.length := by omega
      have hS2 := s2 _ _ hS
      have hdl := depthsTo_len hD
      have hnx : depthsTo xs (i + 1) = match climb xs (xs.length + 1) i 0 with
          | none => none
          | some d => some (ds ++ [d]) := by
        show (match depthsTo xs i with
        | none => none
        | some ds => match climb xs (xs.length + 1) i 0 with
          | none => none
          | some d => some (ds ++ [d])) = _
        rw [hD]
      walk_at "go"
      refine r_cut (fun σ H' => ∃ (k e : Nat), σ = [some (.ref a), some (.ref f), some (.int (i : Int)), some (.int (k : Int)), some (.int (e : Int))] ∧ H' = H2 ∧ climb xs (xs.length + 1) i 0 = some e) ?_ ?_
      · refine r_while (fun m σ H' => ∃ (k e : Nat), m = xs.length + 1 - e ∧ e ≤ xs.length + 1 ∧ k < xs.length ∧ σ = [some (.ref a), some (.ref f), some (.int (i : Int)), some (.int (k : Int)), some (.int (e : Int))] ∧ H' = H2 ∧ climb xs (xs.length + 1 - e) k e = climb xs (xs.length + 1) i 0) (xs.length + 1) ⟨i, 0, rfl, Nat.zero_le _, hil, rfl, rfl, rfl⟩ ?_
        rintro m σ H' ⟨k, e, rfl, he, hk, rfl, rfl, hcl'⟩
        have hK : xs[k]? = some xs[k] := List.getElem?_eq_getElem hk
        have hzo : okV xs[k] = true := List.all_eq_true.mp hok _ (List.mem_of_getElem? hK)
        generalize xs[k] = v at hK hzo
        walk_at "andor"
        walk_at "go"
        cases v with
        | non =>
          refine iteF ?_
          refine iteF ?_
          walk_at "go"
          refine ⟨k, e, rfl, rfl, ?_⟩
          rw [← hcl']
          cases hm : xs.length + 1 - e with
          | zero => rfl
          | succ n =>
            unfold climb
            rw [hK]
        | int j =>
          refine brNT (by intro h; cases h) ?_
          walk_at "go"
          refine brD (fun c => ?_) (fun c => ?_)
          · refine r_wh ?_
            obtain ⟨n, hm⟩ : ∃ n, xs.length + 1 - e = n + 1 := ⟨xs.length - e, by omega⟩
            have hcl2 : climb xs (xs.length + 1 - e) k e = if 0 ≤ j ∧ j < (xs.length : Int) then climb xs n j.toNat (e + 1) else none := by
              rw [hm]
              show (match xs[k]? with
                | some (.int j) => if 0 ≤ j ∧ j < (xs.length : Int) then climb xs n j.toNat (e + 1) else none
                | _ => some e) = _
              rw [hK]
            walk_at "go"
            have bad : ¬ (0 ≤ j ∧ j < (xs.length : Int)) → Q .non H' := fun h => by
              rw [if_neg h, hcl'] at hcl2
              rw [hcl2] at hnx
              refine q0 ?_ H' s2
              have hmono : ∀ d, depthsTo xs (i + 1 + d) = none := fun d => by
                induction d with
                | zero => exact hnx
                | succ d ih =>
                  show (match depthsTo xs (i + 1 + d) with
                    | none => none
                    | some ds => _) = none
                  rw [ih]
              have := hmono (xs.length - (i + 1))
              rw [show i + 1 + (xs.length - (i + 1)) = xs.length by omega] at this
              exact this
            refine brD (fun c1 => ?_) (fun c1 => ?_)
            · walk_at "go"
              refine brN (fun c2 => ?_) (fun c2 => ?_)
              · walk_at "go"
                exact bad (by omega)
              · walk_at "go"
                rw [if_pos ⟨c1, c2⟩] at hcl2
                refine ⟨n, by omega, j.toNat, e + 1, by omega, by omega, by omega, ?_, rfl, ?_⟩
                · rw [show ((j.toNat : Nat) : Int) = j by omega, show ((e + 1 : Nat) : Int) = (e : Int) + 1 by omega] <;> rfl
                · rw [← hcl', hcl2, show xs.length + 1 - (e + 1) = n by omega]
            · walk_at "go"
              exact bad (by omega)
          · walk_at "go"
            refine ⟨k, e, rfl, rfl, ?_⟩
            rw [← hcl', show xs.length + 1 - e = 0 by omega] <;> rfl
        | bl _ => cases hzo
        | str _ => cases hzo
        | byt _ => cases hzo
        | flt _ => cases hzo
        | ref _ => cases hzo
        | ty _ => cases hzo
      · rintro σ H' ⟨k, e, rfl, rfl, hcl'⟩
        rw [hcl'] at hnx
        walk_at "go"
        refine r_app hF2 (by rw [List.length_map, natI_len]; omega) ?_
        refine ⟨ds ++ [e], _, _, _, rfl, same_mut s2 nf, hnx, ?_⟩
        rw [upd_same, snoc_int, natI_snoc]
    · rintro σ H2 ⟨ds, v2, v3, v4, rfl, s2, hD, hF2⟩
      rw [show (xs.length : Int).toNat = xs.length by omega] at hD
      walk_at "go"
      exact q1 ds f H2 hD nf s2 hF2
def sp_is_tree (_ : PySem.W.Frag) (_ : Addr) : Sp := fun vs H Q _ => ∃ (a : Addr) (xs : List V), vs = [.ref a] ∧ H a = some (.lst xs) ∧ xs.all okV = true ∧ xs.length ≤ 63 ∧ ∀ (b : Bool) (H' : Hp), (b = true ↔ 1 ≤ xs.length ∧ xs.length ≤ 40 ∧ IsTree xs) → Same H H' → Q (.bl b) H'
theorem ok_is_tree {f : Addr} {fd : FuncData} (F : Fun K "is_tree" "is_tree" s_is_tree f fd) (T : Txt K mg C xa) (c_tree_over : C8.Cal P w K mg base 43 "tree_over" (sp_tree_over K C) []) (c_depths : C8.Cal P w K mg base 1 "depths" (sp_depths K C) []) : FnOk P w K mg base CX0 44 f fd ["some"] (sp_is_tree K C) := by
  refine F.ok sc_is_tree (fun vs H Q E h => ?_) (fun cdv A outer s H vs Q E hr h => ?_)
  · obtain ⟨a, xs, rfl, hS, hok, hn, q⟩ := h
    rfl
  · obtain ⟨a, xs, rfl, hS, hok, hn, q⟩ := h
    have hcl := T.cl
    have hnK := T.nK
    refine ⟨_, (pss_cons (ps_if (pt_not (pt_chain op_le op_le pe_int (pe_callB c_len (by rfl) T.b_len PySem.boot_len (pa_cons (pv 0) pa_nil)) (C8.pe_gc (v := .int 40) (by rfl) T.g_MOST))) (pss_one (ps_ret pe_bl)) pss_nil)
      (pss_cons (ps_set (i := 1) sc_is_tree.nd rfl (by first | exact Or.inl rfl | exact Or.inr rfl) (C8.pe_c c_depths hr (by decide) rfl (pa_cons (pv 0) pa_nil)))
      (pss_one (ps_ret (pe_and (pe_cmpR o_notN (pv 1) pe_non (nomark _)) (pe_one (pe_cmpR (op_eqD hr.units) (C8.pe_c c_tree_over hr (by decide) rfl (pa_cons (pv 1) pa_nil)) (pv 0) (nomark _)))))))), ?_⟩
    walk_at "go"
    have no : ¬ (1 ≤ xs.length ∧ xs.length ≤ 40) → Q (.bl false) H := fun h => q false H ⟨fun z => absurd z Bool.false_ne_true, fun z => absurd ⟨z.1, z.2.1⟩ h⟩ (Same.refl _)
    refine brD (fun c1 => ?_) (fun c1 => ?_)
    · walk_at "go"
      refine brN (fun c2 => ?_) (fun c2 => ?_)
      · walk_at "go"
        exact no (by omega)
      · walk_at "go"
        refine ⟨a, xs, rfl, hS, hok, hn, fun hD H1 s1 => ?_, fun ds x H1 hD nx s1 hx => ?_⟩
        · walk_at "go"
          refine iteF ?_
          refine q false H1 ⟨fun z => absurd z Bool.false_ne_true, fun z => ?_⟩ s1
          obtain ⟨t, _, h2, _⟩ := isTree_deep z.2.2
          rw [hD] at h2
          cases h2
        · walk_at "go"
          refine brNT (by intro h; cases h) ?_
          have hdl := depthsTo_len hD
          obtain ⟨t, hC⟩ := cart_ex (natI ds)
          walk_at "go"
          refine ⟨x, natI ds, t, rfl, hx, by rw [natI_len]; omega, hC, fun y H2 ny s2 hy => ?_⟩
          walk_at "go"
          refine r_eqL (VT.SqL.lst hy) (VT.SqL.lst (s2 _ _ (s1 _ _ hS))) (BT.codeV_ok _ _ _) hok ?_
          refine q _ H2 ⟨fun z => ⟨by omega, by omega, t, (of_decide_eq_true z).symm⟩, fun z => decide_eq_true ?_⟩ (s1.trans s2)
          obtain ⟨u, h1, h2, h3⟩ := isTree_deep z.2.2
          rw [hD] at h2
          have e := Option.some.inj h2
          subst e
          rw [natI_len, hdl] at hC
          rw [hC.uniq h3, ← h1]
    · walk_at "go"
      exact no (by omega)
def sp_X_ask_tree (_ : PySem.W.Frag) (_ : Addr) (xa : XA) : Sp := fun vs H _ E => ∃ (a : Addr) (xs : List V), vs = [.ref a] ∧ H a = some (.lst xs) ∧ BadTree xs ∧ ∀ (H' : Hp), Same H H' → E (.ref xa.NoTree) none H'
theorem ok_X_ask_tree {f : Addr} {fd : FuncData} (F : Fun K "ask_tree" "ask_tree" s_ask_tree f fd) (T : Txt K mg C xa) (c_is_tree : C8.Cal P w K mg base 44 "is_tree" (sp_is_tree K C) []) : FnOk P w K mg base (L2.CX P w) 45 f fd ["tree"] (sp_X_ask_tree K C xa) := by
  refine F.okX sc_ask_tree (fun vs H Q E h => ?_) (fun cdv A outer s H vs Q E hr h => ?_)
  · obtain ⟨a, xs, rfl, hS, hB, q⟩ := h
    rfl
  · obtain ⟨a, xs, rfl, hS, hB, q⟩ := h
    have hcl := T.cl
    have hnK := T.nK
    refine ⟨_, (pss_one (ps_if (pt_not (pt_val (C8.pe_c c_is_tree hr (by decide) rfl (pa_cons (pv 0) pa_nil)))) (pss_one (ps_raise rfl (takes_of rfl rfl rfl rfl) (pmk_own PySem.F.excBase_ValueError T.x_NoTree T.g_NoTree T.kp_NoTree (raises_own T.su_NoTree T.ty_NoTree) (by exact rfl)))) pss_nil)), ?_⟩
    walk_at "gx"
    refine ⟨a, xs, rfl, hS, hB.ok, Nat.le_trans hB.len (by decide), fun b H' hb s => ?_⟩
    have e : b = false := Bool.eq_false_iff.mpr fun z => hB.no (hb.mp z)
    subst e
    walk_at "gx"
    refine br_nf ?_
    walk_at "gx"
    exact q H' s
def sp_X_tree_number (_ : PySem.W.Frag) (_ : Addr) (xa : XA) : Sp := fun vs H _ E => ∃ (a : Addr) (xs : List V), vs = [.ref a] ∧ H a = some (.lst xs) ∧ BadTree xs ∧ ∀ (H' : Hp), Same H H' → E (.ref xa.NoTree) none H'
theorem ok_X_tree_number {f : Addr} {fd : FuncData} (F : Fun K "tree_number" "tree_number" s_tree_number f fd) (T : Txt K mg C xa) (c_X_ask_tree : CalX P w K mg base 45 "ask_tree" (sp_X_ask_tree K C xa)) : FnOk P w K mg base (L2.CX P w) 46 f fd ["tree"] (sp_X_tree_number K C xa) := by
  refine F.okX sc_tree_number (fun vs H Q E h => ?_) (fun cdv A outer s H vs Q E hr h => ?_)
  · obtain ⟨a, xs, rfl, hS, hB, q⟩ := h
    rfl
  · obtain ⟨a, xs, rfl, hS, hB, q⟩ := h
    have hcl := T.cl
    have hnK := T.nK
    refine ⟨_, (pss_cons (ps_expr (pe_cX c_X_ask_tree hr (by decide) rfl (takes_of rfl rfl rfl rfl) (pa_cons (pv 0) pa_nil)))
      (pss_one ps_never)), ?_⟩
    walk_at "gx"
    exact ⟨a, xs, rfl, hS, hB, q⟩
def sp_X_many_orders (_ : PySem.W.Frag) (_ : Addr) (xa : XA) : Sp := fun vs H _ E => ∃ (a : Addr) (xs : List V), vs = [.ref a] ∧ H a = some (.lst xs) ∧ BadTree xs ∧ ∀ (H' : Hp), Same H H' → E (.ref xa.NoTree) none H'
theorem ok_X_many_orders {f : Addr} {fd : FuncData} (F : Fun K "many_orders" "many_orders" s_many_orders f fd) (T : Txt K mg C xa) (c_X_ask_tree : CalX P w K mg base 45 "ask_tree" (sp_X_ask_tree K C xa)) : FnOk P w K mg base (L2.CX P w) 46 f fd ["tree"] (sp_X_many_orders K C xa) := by
  refine F.okX sc_many_orders (fun vs H Q E h => ?_) (fun cdv A outer s H vs Q E hr h => ?_)
  · obtain ⟨a, xs, rfl, hS, hB, q⟩ := h
    rfl
  · obtain ⟨a, xs, rfl, hS, hB, q⟩ := h
    have hcl := T.cl
    have hnK := T.nK
    refine ⟨_, (pss_cons (ps_expr (pe_cX c_X_ask_tree hr (by decide) rfl (takes_of rfl rfl rfl rfl) (pa_cons (pv 0) pa_nil)))
      (pss_one ps_never)), ?_⟩
    walk_at "gx"
    exact ⟨a, xs, rfl, hS, hB, q⟩
def sp_X_order_at (_ : PySem.W.Frag) (_ : Addr) (xa : XA) : Sp := fun vs H _ E => ∃ (a : Addr) (xs : List V) (y : V), vs = [.ref a, y] ∧ H a = some (.lst xs) ∧ BadTree xs ∧ ∀ (H' : Hp), Same H H' → E (.ref xa.NoTree) none H'
theorem ok_X_order_at {f : Addr} {fd : FuncData} (F : Fun K "order_at" "order_at" s_order_at f fd) (T : Txt K mg C xa) (c_X_many_orders : CalX P w K mg base 46 "many_orders" (sp_X_many_orders K C xa)) : FnOk P w K mg base (L2.CX P w) 47 f fd ["tree", "number"] (sp_X_order_at K C xa) := by
  refine F.okX sc_order_at (fun vs H Q E h => ?_) (fun cdv A outer s H vs Q E hr h => ?_)
  · obtain ⟨a, xs, y, rfl, hS, hB, q⟩ := h
    rfl
  · obtain ⟨a, xs, y, rfl, hS, hB, q⟩ := h
    have hcl := T.cl
    have hnK := T.nK
    refine ⟨_, (pss_cons (ps_set (i := 2) sc_order_at.nd rfl (by first | exact Or.inl rfl | exact Or.inr rfl) (pe_cX c_X_many_orders hr (by decide) rfl (takes_of rfl rfl rfl rfl) (pa_cons (pv 0) pa_nil)))
      (pss_cons ps_never
      (pss_cons ps_never
      (pss_cons ps_never
      (pss_one ps_never))))), ?_⟩
    walk_at "gx"
    exact ⟨a, xs, rfl, hS, hB, q⟩
def sp_X_order_number (_ : PySem.W.Frag) (_ : Addr) (xa : XA) : Sp := fun vs H _ E => ∃ (a : Addr) (xs : List V) (y : V), vs = [.ref a, y] ∧ H a = some (.lst xs) ∧ BadTree xs ∧ ∀ (H' : Hp), Same H H' → E (.ref xa.NoTree) none H'
theorem ok_X_order_number {f : Addr} {fd : FuncData} (F : Fun K "order_number" "order_number" s_order_number f fd) (T : Txt K mg C xa) (c_X_ask_tree : CalX P w K mg base 45 "ask_tree" (sp_X_ask_tree K C xa)) : FnOk P w K mg base (L2.CX P w) 46 f fd ["tree", "order"] (sp_X_order_number K C xa) := by
  refine F.okX sc_order_number (fun vs H Q E h => ?_) (fun cdv A outer s H vs Q E hr h => ?_)
  · obtain ⟨a, xs, y, rfl, hS, hB, q⟩ := h
    rfl
  · obtain ⟨a, xs, y, rfl, hS, hB, q⟩ := h
    have hcl := T.cl
    have hnK := T.nK
    refine ⟨_, (pss_cons (ps_expr (pe_cX c_X_ask_tree hr (by decide) rfl (takes_of rfl rfl rfl rfl) (pa_cons (pv 0) pa_nil)))
      (pss_cons ps_never
      (pss_cons ps_never
      (pss_one ps_never)))), ?_⟩
    walk_at "gx"
    exact ⟨a, xs, rfl, hS, hB, q⟩
def sp_X__law_no_tree (_ : PySem.W.Frag) (_ : Addr) (xa : XA) : Sp := fun vs H _ E => ∃ (c f : Int), vs = [.int c, .int f] ∧ 0 ≤ f ∧ ∀ (H' : Hp), Same H H' → E (.ref xa.NoTree) none H'
theorem ok_X__law_no_tree {f : Addr} {fd : FuncData} (F : Fun K "_law_no_tree" "_law_no_tree" s__law_no_tree f fd) (T : Txt K mg C xa) (c_X_tree_number : CalX P w K mg base 46 "tree_number" (sp_X_tree_number K C xa)) (c_X_many_orders : CalX P w K mg base 46 "many_orders" (sp_X_many_orders K C xa)) (c_X_order_at : CalX P w K mg base 47 "order_at" (sp_X_order_at K C xa)) (c_X_order_number : CalX P w K mg base 46 "order_number" (sp_X_order_number K C xa)) : FnOk P w K mg base (L2.CX P w) 48 f fd ["cell", "far"] (sp_X__law_no_tree K C xa) := by
  refine F.okX sc__law_no_tree (fun vs H Q E h => ?_) (fun cdv A outer s H vs Q E hr h => ?_)
  · obtain ⟨c, f, rfl, hf, q⟩ := h
    rfl
  · obtain ⟨c, f, rfl, hf, q⟩ := h
    have hcl := T.cl
    have hnK := T.nK
    refine ⟨_, (pss_cons (ps_set (i := 2) sc__law_no_tree.nd rfl (by first | exact Or.inl rfl | exact Or.inr rfl) (pe_lst (pa_cons (pe_lst pa_nil) (pa_cons (pe_lst (pa_cons pe_int pa_nil)) (pa_cons (pe_lst (pa_cons pe_int (pa_cons pe_int pa_nil))) (pa_cons (pe_lst (pa_cons pe_non (pa_cons pe_non pa_nil))) (pa_cons (pe_lst (pa_cons (pe_op op_add pe_int (pv 1)) pa_nil)) (pa_cons (pe_lst (pa_cons pe_non (pa_cons (pe_un un_neg pe_int) (pa_cons pe_int pa_nil)))) pa_nil))))))))
      (pss_cons (ps_set (i := 2) sc__law_no_tree.nd rfl (by first | exact Or.inl rfl | exact Or.inr rfl) (pe_op op_cat (pv 2) (pe_lst (pa_cons (pe_lst (pa_cons pe_non (pa_cons pe_int (pa_cons pe_int (pa_cons pe_int pa_nil))))) (pa_cons (pe_lst (pa_cons pe_int (pa_cons pe_non (pa_cons pe_int pa_nil)))) (pa_cons (pe_lst (pa_cons pe_int (pa_cons pe_int (pa_cons pe_non (pa_cons pe_int pa_nil))))) pa_nil))))))
      (C8.pss_cut (ps_set (i := 3) sc__law_no_tree.nd rfl (by first | exact Or.inl rfl | exact Or.inr rfl) (pe_ix ix_list (pv 2) (pe_op op_mod (pe_op op_fdiv (pv 0) pe_int) pe_int) (fun _ _ => rfl)))
      (pss_cons (ps_set (i := 4) sc__law_no_tree.nd rfl (by first | exact Or.inl rfl | exact Or.inr rfl) (pe_op op_mod (pv 0) pe_int))
      (pss_one (ps_if (pt_cmpR op_eq (pv 4) pe_int (nomark _)) (pss_one (ps_expr (pe_cX c_X_tree_number hr (by decide) rfl (takes_of rfl rfl rfl rfl) (pa_cons (pv 3) pa_nil)))) (pss_one (ps_if (pt_cmpR op_eq (pv 4) pe_int (nomark _)) (pss_one (ps_expr (pe_cX c_X_many_orders hr (by decide) rfl (takes_of rfl rfl rfl rfl) (pa_cons (pv 3) pa_nil)))) (pss_one (ps_if (pt_cmpR op_eq (pv 4) pe_int (nomark _)) (pss_one (ps_expr (pe_cX c_X_order_at hr (by decide) rfl (takes_of rfl rfl rfl rfl) (pa_cons (pv 3) (pa_cons (pe_un un_neg pe_int) pa_nil))))) (pss_one (ps_expr (pe_cX c_X_order_number hr (by decide) rfl (takes_of rfl rfl rfl rfl) (pa_cons (pv 3) (pa_cons (pe_lst (pa_cons pe_int pa_nil)) pa_nil))))))))))))))), ?_⟩
    have y0 := Int.emod_nonneg (c / 4) (show (9 : Int) ≠ 0 by decide)
    have y1 := Int.emod_lt_of_pos (c / 4) (show (0 : Int) < 9 by decide)
    walk_at "gx"
    intro a1 H1 n1 s1 h1
    walk_at "gx"
    intro a2 H2 n2 s2 h2
    walk_at "gx"
    intro a3 H3 n3 s3 h3
    walk_at "gx"
    intro a4 H4 n4 s4 h4
    walk_at "gx"
    intro a5 H5 n5 s5 h5
    walk_at "gx"
    intro a6 H6 n6 s6 h6
    walk_at "gx"
    intro la H7 n7 s7 h7
    walk_at "gx"
    intro a8 H8 n8 s8 h8
    walk_at "gx"
    intro a9 H9 n9 s9 h9
    walk_at "gx"
    intro a10 H10 n10 s10 h10
    walk_at "gx"
    intro lb H11 n11 s11 h11
    walk_at "gx"
    refine r_catN (by walk_at "hp") h11 (Nat.le_of_ble_eq_true rfl) fun lc H12 n12 s12 h12 => ?_
    walk_at "gx"
    obtain ⟨v, hv, t, xs, rfl, ht, hB⟩ := AllV.pick (P := fun v => ∃ (t : Addr) (xs : List V), v = .ref t ∧ H12 t = some (.lst xs) ∧ BadTree xs) (vs := [.ref a1, .ref a2, .ref a3, .ref a4, .ref a5, .ref a6, .ref a8, .ref a9, .ref a10]) (i := c / 4 % 9) (.cons ⟨a1, [], rfl, by walk_at "hp", bad_nil⟩ (.cons ⟨a2, [V.int 0], rfl, by walk_at "hp", bad_of rfl (Nat.le_of_ble_eq_true rfl) (by decide +kernel)⟩ (.cons ⟨a3, [V.int 1, V.int 0], rfl, by walk_at "hp", bad_of rfl (Nat.le_of_ble_eq_true rfl) (by decide +kernel)⟩ (.cons ⟨a4, [V.non, V.non], rfl, by walk_at "hp", bad_of rfl (Nat.le_of_ble_eq_true rfl) (by decide +kernel)⟩ (.cons ⟨a5, [V.int (1 + f)], rfl, by walk_at "hp", bad_of rfl (Nat.le_of_ble_eq_true rfl) (by rfl)⟩ (.cons ⟨a6, [V.non, V.int (-1), V.int 1], rfl, by walk_at "hp", bad_of rfl (Nat.le_of_ble_eq_true rfl) (by decide +kernel)⟩ (.cons ⟨a8, [V.non, V.int 2, V.int 0, V.int 1], rfl, by walk_at "hp", bad_of rfl (Nat.le_of_ble_eq_true rfl) (by decide +kernel)⟩ (.cons ⟨a9, [V.int 1, V.non, V.int 0], rfl, by walk_at "hp", bad_of rfl (Nat.le_of_ble_eq_true rfl) (by decide +kernel)⟩ (.cons ⟨a10, [V.int 2, V.int 2, V.non, V.int 2], rfl, by walk_at "hp", bad_of rfl (Nat.le_of_ble_eq_true rfl) (by decide +kernel)⟩ .nil))))))))) y0 y1
    have sT : Same H H12 := (((((((((((s1.trans s2).trans s3).trans s4).trans s5).trans s6).trans s7).trans s8).trans s9).trans s10).trans s11).trans s12)
    refine r_cut (fun σ' H' => ∃ (w x : Option V), σ' = [some (.int c), some (.int f), w, some (.ref t), x] ∧ Same H H' ∧ H' t = some (.lst xs)) ?_ ?_
    · walk_at "gx"
      try refine r_ixL (VT.SqL.lst h12) hv ?_
      walk_at "gx"
      exact ⟨_, _, rfl, sT, ht⟩
    clear ht hv sT
    rintro σ' H' ⟨w, x, rfl, sT, ht⟩
    have fin : ∀ (H2 : Hp), Same H' H2 → E (.ref xa.NoTree) none H2 := fun H2 s => q H2 (sT.trans s)
    walk_at "gx"
    refine brD (fun c1 => ?_) (fun c1 => ?_)
    · walk_at "gx"
      exact ⟨t, xs, rfl, ht, hB, fin⟩
    walk_at "gx"
    refine brD (fun c2 => ?_) (fun c2 => ?_)
    · walk_at "gx"
      exact ⟨t, xs, rfl, ht, hB, fin⟩
    walk_at "gx"
    refine brD (fun c3 => ?_) (fun c3 => ?_)
    · walk_at "gx"
      exact ⟨t, xs, _, rfl, ht, hB, fin⟩
    walk_at "gx"
    intro b H2 nb sb hb
    walk_at "gx"
    exact ⟨t, xs, _, rfl, sb _ _ ht, hB, fun H3 s => fin H3 (sb.trans s)⟩
def sp_ask_tree (_ : PySem.W.Frag) (_ : Addr) : Sp := fun vs H Q _ => ∃ (a : Addr) (xs : List V), vs = [.ref a] ∧ H a = some (.lst xs) ∧ xs.all okV = true ∧ 1 ≤ xs.length ∧ xs.length ≤ 40 ∧ IsTree xs ∧ ∀ (H' : Hp), Same H H' → Q .non H'
theorem ok_ask_tree {f : Addr} {fd : FuncData} (F : Fun K "ask_tree" "ask_tree" s_ask_tree f fd) (T : Txt K mg C xa) (c_is_tree : C8.Cal P w K mg base 44 "is_tree" (sp_is_tree K C) []) : FnOk P w K mg base CX0 45 f fd ["tree"] (sp_ask_tree K C) := by
  refine F.ok sc_ask_tree (fun vs H Q E h => ?_) (fun cdv A outer s H vs Q E hr h => ?_)
  · obtain ⟨a, xs, rfl, hS, hok, h1, hn, hT, q⟩ := h
    rfl
  · obtain ⟨a, xs, rfl, hS, hok, h1, hn, hT, q⟩ := h
    have hcl := T.cl
    have hnK := T.nK
    refine ⟨_, (pss_one (ps_if (pt_not (pt_val (C8.pe_c c_is_tree hr (by decide) rfl (pa_cons (pv 0) pa_nil)))) (pss_one ps_never) pss_nil)), ?_⟩
    walk_at "go"
    refine ⟨a, xs, rfl, hS, hok, by omega, fun b H' hb s => ?_⟩
    have e : b = true := hb.mpr ⟨h1, hn, hT⟩
    subst e
    walk_at "go"
    refine iteF ?_
    walk_at "go"
    exact q H' s
def sp_Y_order_number (_ : PySem.W.Frag) (_ : Addr) (xa : XA) : Sp := fun vs H _ E => ∃ (a o : Addr) (os : List Int), vs = [.ref a, .ref o] ∧ H a = some (.lst (t0.codeV 0 none)) ∧ H o = some (.lst (os.map V.int)) ∧ BadOrd os ∧ ∀ (H' : Hp), Same H H' → E (.ref xa.NoOrder) none H'
theorem ok_Y_order_number {f : Addr} {fd : FuncData} (F : Fun K "order_number" "order_number" s_order_number f fd) (T : Txt K mg C xa) (c_tree_over : C8.Cal P w K mg base 43 "tree_over" (sp_tree_over K C) []) (c_ask_tree : C8.Cal P w K mg base 45 "ask_tree" (sp_ask_tree K C) []) : FnOk P w K mg base (L2.CX P w) 46 f fd ["tree", "order"] (sp_Y_order_number K C xa) := by
  refine F.okX sc_order_number (fun vs H Q E h => ?_) (fun cdv A outer s H vs Q E hr h => ?_)
  · obtain ⟨a, o, os, rfl, hS, hNo, hB, q⟩ := h
    rfl
  · obtain ⟨a, o, os, rfl, hS, hNo, hB, q⟩ := h
    have hcl := T.cl
    have hnK := T.nK
    refine ⟨_, (pss_cons (ps_expr (C8.pe_c c_ask_tree hr (by decide) rfl (pa_cons (pv 0) pa_nil)))
      (pss_cons (ps_if (PW.pt (pw_or (pt_not (pt_chain op_le op_le pe_int (pe_callB c_len (by rfl) T.b_len PySem.boot_len (pa_cons (pv 1) pa_nil)) (C8.pe_gc (v := .int 40) (by rfl) T.g_MOST))) (pw_or1 (pt_cmpR (op_neD hr.units) (pe_callB cr_sortedI (by rfl) T.b_sorted (by decide +kernel) (pa_cons (pv 1) pa_nil)) (pe_listRg rfl (by rfl) T.b_list (prg_1 (by rfl) T.b_range (pe_callB c_len (by rfl) T.b_len PySem.boot_len (pa_cons (pv 1) pa_nil)))) (nomark _))))) (pss_one (ps_raise rfl (takes_of rfl rfl rfl rfl) (pmk_own PySem.F.excBase_ValueError T.x_NoOrder T.g_NoOrder T.kp_NoOrder (raises_own T.su_NoOrder T.ty_NoOrder) (by exact rfl)))) pss_nil)
      (pss_cons (ps_if (pt_cmpR (op_neD hr.units) (C8.pe_c c_tree_over hr (by decide) rfl (pa_cons (pv 1) pa_nil)) (pv 0) (nomark _)) (pss_one (ps_raise rfl (takes_of rfl rfl rfl rfl) (pmk_own PySem.F.excBase_ValueError T.x_NoOrder T.g_NoOrder T.kp_NoOrder (raises_own T.su_NoOrder T.ty_NoOrder) (by exact rfl)))) pss_nil)
      (pss_one ps_never)))), ?_⟩
    have hol := hB.len
    walk_at "gx"
    refine ⟨a, t0.codeV 0 none, rfl, hS, BT.codeV_ok _ _ _, by decide, by decide, ⟨t0, rfl⟩, fun H1 s1 => ?_⟩
    have hS1 := s1 _ _ hS
    have hNo1 := s1 _ _ hNo
    walk_at "gx"
    walk_at "andor"
    walk_at "gx"
    refine brD (fun c1 => ?_) (fun c1 => ?_)
    · walk_at "gx"
      refine brNF (by omega) ?_
      walk_at "gx"
      refine r_sortedI (VT.SqL.lst hNo1) fun ns' b4 p1 p2 nb4 => ?_
      have sb4 := same_new nb4 (.lst (ns'.map V.int))
      have hb4 := @upd_same H1 b4 (.lst (ns'.map V.int))
      generalize upd H1 b4 (.lst (ns'.map V.int)) = H2 at sb4 hb4
      have hNo2 := sb4 _ _ hNo1
      have hS2 := sb4 _ _ hS1
      walk_at "gx"
      refine ⟨RgOk.of_le (by omega) (by omega) (by omega) (by omega), fun r nr => ?_⟩
      rw [rgV_nums]
      have sb5 := same_new nr (.lst ((numsTo os.length).map V.int))
      refine r_neL (VT.SqL.lst (sb5 _ _ hb4)) (VT.SqL.lst upd_same) (all_int _) (all_int _) ?_
      have hNo3 := sb5 _ _ hNo2
      have hS3 := sb5 _ _ hS2
      have s03 := (s1.trans sb4).trans sb5
      generalize upd H2 r (.lst ((numsTo os.length).map V.int)) = H3 at hNo3 hS3 s03
      walk_at "gx"
      refine brN (fun c2 => ?_) (fun c2 => ?_)
      · walk_at "gx"
        exact q H3 s03
      · have hp : os.Perm (numsTo os.length) := by
          have := map_int_inj c2
          rw [this] at p1
          exact p1.symm
        obtain ⟨u, hU⟩ := cart_ex os
        have hne := hB.no (by omega) hp u hU
        walk_at "gx"
        refine ⟨o, os, u, rfl, hNo3, hol, hU, fun x H4 nx s4 hx => ?_⟩
        walk_at "gx"
        refine r_neL (VT.SqL.lst hx) (VT.SqL.lst (s4 _ _ hS3)) (BT.codeV_ok _ _ _) (BT.codeV_ok _ _ _) ?_
        walk_at "gx"
        refine brNT (fun z => hne (codeV_inj z)) ?_
        walk_at "gx"
        exact q H4 (s03.trans s4)
    · walk_at "gx"
      refine br_nf ?_
      walk_at "gx"
      exact q H1 s1
def sp_X__law_no_order (_ : PySem.W.Frag) (_ : Addr) (xa : XA) : Sp := fun vs H _ E => ∃ (c f : Int), vs = [.int c, .int f] ∧ 0 ≤ f ∧ ∀ (H' : Hp), Same H H' → E (.ref xa.NoOrder) none H'
theorem ok_X__law_no_order {f : Addr} {fd : FuncData} (F : Fun K "_law_no_order" "_law_no_order" s__law_no_order f fd) (T : Txt K mg C xa) (c_Y_order_number : CalX P w K mg base 46 "order_number" (sp_Y_order_number K C xa)) : FnOk P w K mg base (L2.CX P w) 47 f fd ["cell", "far"] (sp_X__law_no_order K C xa) := by
  refine F.okX sc__law_no_order (fun vs H Q E h => ?_) (fun cdv A outer s H vs Q E hr h => ?_)
  · obtain ⟨c, f, rfl, hf, q⟩ := h
    rfl
  · obtain ⟨c, f, rfl, hf, q⟩ := h
    have hcl := T.cl
    have hnK := T.nK
    refine ⟨_, (pss_cons (ps_set (i := 2) sc__law_no_order.nd rfl (by first | exact Or.inl rfl | exact Or.inr rfl) (pe_lst (pa_cons (pe_lst pa_nil) (pa_cons (pe_lst (pa_cons pe_int pa_nil)) (pa_cons (pe_lst (pa_cons pe_int (pa_cons pe_int (pa_cons pe_int pa_nil)))) (pa_cons (pe_lst (pa_cons pe_int (pa_cons pe_int (pa_cons pe_int pa_nil)))) (pa_cons (pe_lst (pa_cons pe_int (pa_cons pe_int (pa_cons pe_int pa_nil)))) (pa_cons (pe_lst (pa_cons pe_int (pa_cons pe_int (pa_cons (pe_op op_add pe_int (pv 1)) pa_nil)))) pa_nil))))))))
      (C8.pss_cut (ps_set (i := 2) sc__law_no_order.nd rfl (by first | exact Or.inl rfl | exact Or.inr rfl) (pe_op op_cat (pv 2) (pe_lst (pa_cons (pe_lst (pa_cons pe_int (pa_cons pe_int (pa_cons pe_int pa_nil)))) (pa_cons (pe_lst (pa_cons pe_int (pa_cons pe_int (pa_cons pe_int (pa_cons pe_int pa_nil))))) (pa_cons (pe_lst (pa_cons pe_int (pa_cons pe_int (pa_cons (pe_un un_neg pe_int) pa_nil)))) (pa_cons (pe_lst (pa_cons pe_int (pa_cons pe_int (pa_cons pe_int pa_nil)))) pa_nil)))))))
      (pss_one (ps_expr (pe_cX c_Y_order_number hr (by decide) rfl (takes_of rfl rfl rfl rfl) (pa_cons (pe_lst (pa_cons pe_int (pa_cons pe_non (pa_cons pe_int pa_nil)))) (pa_cons (pe_ix ix_list (pv 2) (pe_op op_mod (pv 0) pe_int) (fun _ _ => rfl)) pa_nil))))))), ?_⟩
    have y0 := Int.emod_nonneg c (show (10 : Int) ≠ 0 by decide)
    have y1 := Int.emod_lt_of_pos c (show (0 : Int) < 10 by decide)
    walk_at "gx"
    intro a1 H1 n1 s1 h1
    walk_at "gx"
    intro a2 H2 n2 s2 h2
    walk_at "gx"
    intro a3 H3 n3 s3 h3
    walk_at "gx"
    intro a4 H4 n4 s4 h4
    walk_at "gx"
    intro a5 H5 n5 s5 h5
    walk_at "gx"
    intro a6 H6 n6 s6 h6
    walk_at "gx"
    intro la H7 n7 s7 h7
    walk_at "gx"
    refine r_cut (fun σ' H' => ∃ (s t : Addr) (os : List Int) (vs : List V), σ' = [some (.int c), some (.int f), some (.ref s)] ∧ Same H H' ∧ H' s = some (.lst vs) ∧ atI vs (c % 10) = some (.ref t) ∧ H' t = some (.lst (os.map V.int)) ∧ BadOrd os) ?_ ?_
    · walk_at "gx"
      intro a8 H8 n8 s8 h8
      walk_at "gx"
      intro a9 H9 n9 s9 h9
      walk_at "gx"
      intro a10 H10 n10 s10 h10
      walk_at "gx"
      intro a11 H11 n11 s11 h11
      walk_at "gx"
      intro lb H12 n12 s12 h12
      walk_at "gx"
      refine r_catN (by walk_at "hp") h12 (Nat.le_of_ble_eq_true rfl) fun lc H13 n13 s13 h13 => ?_
      walk_at "gx"
      obtain ⟨v, hv, t, os, rfl, ht, hB⟩ := AllV.pick (P := fun v => ∃ (t : Addr) (os : List Int), v = .ref t ∧ H13 t = some (.lst (os.map V.int)) ∧ BadOrd os) (vs := [.ref a1, .ref a2, .ref a3, .ref a4, .ref a5, .ref a6, .ref a8, .ref a9, .ref a10, .ref a11]) (i := c % 10) (.cons ⟨a1, [], rfl, by walk_at "hp", bad_len (by decide) (by decide)⟩ (.cons ⟨a2, [0], rfl, by walk_at "hp", bad_len (by decide) (by decide)⟩ (.cons ⟨a3, [0, 1, 2], rfl, by walk_at "hp", bad_head (k := 0) rfl rfl (by decide) rfl (by decide)⟩ (.cons ⟨a4, [1, 1, 0], rfl, by walk_at "hp", bad_twice rfl (by decide)⟩ (.cons ⟨a5, [1, 0, 3], rfl, by walk_at "hp", bad_perm (x := 3) rfl (by decide) (by decide)⟩ (.cons ⟨a6, [1, 0, 3 + f], rfl, by walk_at "hp", bad_perm (x := 3 + f) rfl (.tail _ (.tail _ (.head _))) ⟨by omega, by omega, by omega⟩⟩ (.cons ⟨a8, [2, 1, 0], rfl, by walk_at "hp", bad_head (k := 2) rfl rfl (by decide) rfl (by decide)⟩ (.cons ⟨a9, [1, 0, 2, 3], rfl, by walk_at "hp", bad_len (by decide) (by decide)⟩ (.cons ⟨a10, [1, 0, (-1)], rfl, by walk_at "hp", bad_perm (x := -1) rfl (by decide) (by decide)⟩ (.cons ⟨a11, [0, 2, 1], rfl, by walk_at "hp", bad_head (k := 0) rfl rfl (by decide) rfl (by decide)⟩ .nil)))))))))) y0 y1
      have sT : Same H H13 := ((((((((((((s1.trans s2).trans s3).trans s4).trans s5).trans s6).trans s7).trans s8).trans s9).trans s10).trans s11).trans s12).trans s13)
      exact ⟨lc, t, os, _, rfl, sT, h13, hv, ht, hB⟩
    rintro σ' H' ⟨s, t, os, vs, rfl, sT, hs, hv, ht, hB⟩
    walk_at "gx"
    intro b H2 nb sb hb
    have hs2 := sb _ _ hs
    have ht2 := sb _ _ ht
    walk_at "gx"
    try refine r_ixL (VT.SqL.lst hs2) hv ?_
    walk_at "gx"
    exact ⟨b, t, os, rfl, hb, ht2, hB, fun H3 s3 => q H3 ((sT.trans sb).trans s3)⟩
def sp_X_many_trees (_ : PySem.W.Frag) (_ : Addr) (xa : XA) : Sp := fun vs H _ E => ∃ (n : Int), vs = [.int n] ∧ ¬ (1 ≤ n ∧ n ≤ 40) ∧ ∀ (H' : Hp), Same H H' → E (.ref xa.NoNumber) none H'
theorem ok_X_many_trees {f : Addr} {fd : FuncData} (F : Fun K "many_trees" "many_trees" s_many_trees f fd) (T : Txt K mg C xa)  : FnOk P w K mg base (L2.CX P w) 1 f fd ["size"] (sp_X_many_trees K C xa) := by
  refine F.okX sc_many_trees (fun vs H Q E h => ?_) (fun cdv A outer s H vs Q E hr h => ?_)
  · obtain ⟨n, rfl, hno, q⟩ := h
    rfl
  · obtain ⟨n, rfl, hno, q⟩ := h
    have hcl := T.cl
    have hnK := T.nK
    refine ⟨_, (pss_cons (ps_if (pt_not (pt_chain op_le op_le pe_int (pv 0) (C8.pe_gc (v := .int 40) (by rfl) T.g_MOST))) (pss_one (ps_raise rfl (takes_of rfl rfl rfl rfl) (pmk_own PySem.F.excBase_ValueError T.x_NoNumber T.g_NoNumber T.kp_NoNumber (raises_own T.su_NoNumber T.ty_NoNumber) (by exact rfl)))) pss_nil)
      (pss_one ps_never)), ?_⟩
    walk_at "gx"
    refine brD (fun c => ?_) (fun c => ?_)
    · walk_at "gx"
      refine brNT (by omega) ?_
      walk_at "gx"
      exact q H (Same.refl _)
    · walk_at "gx"
      refine br_nf ?_
      walk_at "gx"
      exact q H (Same.refl _)
def sp_X_tree_at (_ : PySem.W.Frag) (_ : Addr) (xa : XA) : Sp := fun vs H _ E => ∃ (n m : Int), vs = [.int n, .int m] ∧ 0 ≤ m ∧ ¬ (1 ≤ n ∧ n ≤ 40) ∧ ∀ (H' : Hp), Same H H' → E (.ref xa.NoNumber) none H'
theorem ok_X_tree_at {f : Addr} {fd : FuncData} (F : Fun K "tree_at" "tree_at" s_tree_at f fd) (T : Txt K mg C xa) (c_X_many_trees : CalX P w K mg base 1 "many_trees" (sp_X_many_trees K C xa)) : FnOk P w K mg base (L2.CX P w) 2 f fd ["size", "number"] (sp_X_tree_at K C xa) := by
  refine F.okX sc_tree_at (fun vs H Q E h => ?_) (fun cdv A outer s H vs Q E hr h => ?_)
  · obtain ⟨n, m, rfl, h0, hno, q⟩ := h
    rfl
  · obtain ⟨n, m, rfl, h0, hno, q⟩ := h
    have hcl := T.cl
    have hnK := T.nK
    refine ⟨_, (pss_cons (ps_if (pt_not (pt_chain op_le op_lt pe_int (pv 1) (pe_cX c_X_many_trees hr (by decide) rfl (takes_of rfl rfl rfl rfl) (pa_cons (pv 0) pa_nil)))) (pss_one ps_never) pss_nil)
      (pss_cons ps_never
      (pss_cons ps_never
      (pss_one ps_never)))), ?_⟩
    walk_at "gx"
    refine brT h0 ?_
    walk_at "gx"
    exact ⟨n, rfl, hno, q⟩
def sp_shapes (_ : PySem.W.Frag) (_ : Addr) : Sp := fun vs H Q _ => ∃ (n : Nat), vs = [.int (n : Int)] ∧ n ≤ 40 ∧ ∀ (x : Addr) (H' : Hp), H x = none → Same H H' → H' x = some (.lst ((cats (n + 1)).map V.int)) → Q (.ref x) H'
theorem ok_shapes {f : Addr} {fd : FuncData} (F : Fun K "shapes" "shapes" s_shapes f fd) (T : Txt K mg C xa)  : FnOk P w K mg base CX0 1 f fd ["most"] (sp_shapes K C) := by
  refine F.ok sc_shapes (fun vs H Q E h => ?_) (fun cdv A outer s H vs Q E hr h => ?_)
  · obtain ⟨n, rfl, hn, q⟩ := h
    rfl
  · obtain ⟨n, rfl, hn, q⟩ := h
    have hcl := T.cl
    have hnK := T.nK
    refine ⟨_, (pss_cons (ps_set (i := 1) sc_shapes.nd rfl (by first | exact Or.inl rfl | exact Or.inr rfl) (pe_lst (pa_cons pe_int pa_nil)))
      (pss_cons (ps_for PassesOwn.never rfl (pi_range2 (by rfl) T.b_range (pa_cons pe_int (pa_cons (pe_op op_add (pv 0) pe_int) pa_nil))) (pg_name (i := 2) sc_shapes.nd rfl (by first | exact Or.inl rfl | exact Or.inr rfl)) (pss_one (ps_expr (pe_bm PySem.F.plainAttrs_list PySem.F.slot_list_append PySem.F.type_list_append mt_append (pv 1) (pa_cons (pe_callB (cr_sum rfl) (by rfl) T.b_sum (by decide +kernel) (pa_cons (pe_lc (own := [("top", 3)]) (g := gName 3) (tt := tYes) rfl sc_shapes.nd (pi_range1 (by rfl) T.b_range (pa_cons (pv 2) pa_nil)) (blkOk_by (own := [("top", 3)]) (N := ["most", "found", "size", "top"]) (sc := (defScope s_shapes)) (by decide +kernel)) (fun _ _ _ _ _ => pg_name (i := 3) sc_shapes.nd rfl (by first | exact Or.inl rfl | exact Or.inr rfl)) (fun _ _ _ _ _ => pts_nil) (fun _ _ _ _ _ => (pe_op op_mulW (pe_ix (ixL (K := K) rfl) (pv 1) (pv 3) (fun _ _ => rfl)) (pe_ix (ixL (K := K) rfl) (pv 1) (pe_op op_sub (pe_op op_sub (pv 2) pe_int) (pv 3)) (fun _ _ => rfl))))) pa_nil)) pa_nil)))))
      (pss_one (ps_ret (pv 1))))), ?_⟩
    walk_at "go"
    intro f nf
    have sA := same_new nf (.lst [V.int 1])
    have hF := @upd_same H f (.lst [V.int 1])
    generalize upd H f (.lst [V.int 1]) = H1 at sA hF
    walk_at "go"
    refine r_loopR (fun i σ H' => ∃ (v2 v3 : Option V), σ = [some (.int (n : Int)), some (.ref f), v2, v3] ∧ Same H H' ∧ H' f = some (.lst ((cats (i + 1)).map V.int))) ⟨_, _, rfl, sA, hF⟩ ?_ ?_
    · rintro i σ H2 hi ⟨v2, v3, rfl, s2, hF2⟩
      have hil : i < n := by omega
      have hcl' := cats_len (i + 1)
      walk_at "go"
      refine r_LcR0 (fun j => (prods (i + 1) j).map V.int) rfl (fun j _ => by rw [List.length_map, prods_len]; omega) (fun _ => rfl) (fun j H' N Z hj s hN hZ => ?_) (fun D H3 nD s3 hD => ?_)
      · have hj' : j < i + 1 := by omega
        have h1 := cats_at (n := i + 1) (i := j) hj'
        have h2 := cats_at (n := i + 1) (i := i + 1 - 1 - j) (by omega)
        have hm := cmul_cat (i := j) (j := i + 1 - 1 - j) (by omega) (by omega)
        have hF' := s _ _ hF2
        walk_at "go"
        refine iteT ?_
        walk_at "go"
        try refine r_ixL (VT.SqL.lst hF') (r_at (j := i + 1 - 1 - j) (by omega) h2) ?_
        walk_at "go"
        exact hN _ _ (Same.refl _) (by show (prods (i + 1) (j + 1)).map V.int = _; rw [prods_more, ← snoc_int])
      have hF3 := s3 _ _ hF2
      walk_at "go"
      refine r_sum (VT.SqL.lst hD) ?_
      rw [prods_sum, show ((1 : Int) + (i : Int)).toNat = i + 1 by omega, cat_rec (by omega) (by omega)]
      walk_at "go"
      try refine r_app hF3 (by rw [List.length_map]; omega) ?_
      refine ⟨_, _, rfl, same_mut (s2.trans s3) nf, ?_⟩
      rw [upd_same, snoc_int, ← cats_more]
    · rintro σ H2 ⟨v2, v3, rfl, s2, hF2⟩
      rw [show ((n : Int) + 1 - 1).toNat = n by omega] at hF2
      walk_at "go"
      exact q f H2 nf s2 hF2
def sp_many_trees (_ : PySem.W.Frag) (_ : Addr) : Sp := fun vs H Q _ => ∃ (n : Nat), vs = [.int (n : Int)] ∧ 1 ≤ n ∧ n ≤ 40 ∧ ∀ (H' : Hp), Same H H' → Q (.int (cat n : Int)) H'
theorem ok_many_trees {f : Addr} {fd : FuncData} (F : Fun K "many_trees" "many_trees" s_many_trees f fd) (T : Txt K mg C xa) (c_shapes : C8.Cal P w K mg base 1 "shapes" (sp_shapes K C) []) : FnOk P w K mg base CX0 2 f fd ["size"] (sp_many_trees K C) := by
  refine F.ok sc_many_trees (fun vs H Q E h => ?_) (fun cdv A outer s H vs Q E hr h => ?_)
  · obtain ⟨n, rfl, h1, hn, q⟩ := h
    rfl
  · obtain ⟨n, rfl, h1, hn, q⟩ := h
    have hcl := T.cl
    have hnK := T.nK
    refine ⟨_, (pss_cons (ps_if (pt_not (pt_chain op_le op_le pe_int (pv 0) (C8.pe_gc (v := .int 40) (by rfl) T.g_MOST))) (pss_one ps_never) pss_nil)
      (pss_one (ps_ret (pe_ix ix_list (C8.pe_c c_shapes hr (by decide) rfl (pa_cons (pv 0) pa_nil)) (pv 0) (fun _ _ => rfl))))), ?_⟩
    walk_at "go"
    refine brT (by omega) ?_
    walk_at "go"
    refine brNF (by omega) ?_
    walk_at "go"
    refine ⟨n, rfl, hn, fun x H' nx s hx => ?_⟩
    walk_at "go"
    refine r_ixL (VT.SqL.lst hx) (atI_nat (cats_at (n := n + 1) (i := n) (by omega))) ?_
    exact q H' s
def sp_Y_tree_at (_ : PySem.W.Frag) (_ : Addr) (xa : XA) : Sp := fun vs H _ E => ∃ (n : Nat) (m : Int), vs = [.int (n : Int), .int m] ∧ 1 ≤ n ∧ n ≤ 40 ∧ ¬ (0 ≤ m ∧ m < (cat n : Int)) ∧ ∀ (H' : Hp), Same H H' → E (.ref xa.NoNumber) none H'
theorem ok_Y_tree_at {f : Addr} {fd : FuncData} (F : Fun K "tree_at" "tree_at" s_tree_at f fd) (T : Txt K mg C xa) (c_many_trees : C8.Cal P w K mg base 2 "many_trees" (sp_many_trees K C) []) : FnOk P w K mg base (L2.CX P w) 3 f fd ["size", "number"] (sp_Y_tree_at K C xa) := by
  refine F.okX sc_tree_at (fun vs H Q E h => ?_) (fun cdv A outer s H vs Q E hr h => ?_)
  · obtain ⟨n, m, rfl, h1, hn, hno, q⟩ := h
    rfl
  · obtain ⟨n, m, rfl, h1, hn, hno, q⟩ := h
    have hcl := T.cl
    have hnK := T.nK
    refine ⟨_, (pss_cons (ps_if (pt_not (pt_chain op_le op_lt pe_int (pv 1) (C8.pe_c c_many_trees hr (by decide) rfl (pa_cons (pv 0) pa_nil)))) (pss_one (ps_raise rfl (takes_of rfl rfl rfl rfl) (pmk_own PySem.F.excBase_ValueError T.x_NoNumber T.g_NoNumber T.kp_NoNumber (raises_own T.su_NoNumber T.ty_NoNumber) (by exact rfl)))) pss_nil)
      (pss_cons ps_never
      (pss_cons ps_never
      (pss_one ps_never)))), ?_⟩
    walk_at "gx"
    refine brD (fun c => ?_) (fun c => ?_)
    · walk_at "gx"
      refine ⟨n, rfl, h1, hn, fun H1 s1 => ?_⟩
      walk_at "gx"
      refine brNT (by omega) ?_
      walk_at "gx"
      exact q H1 s1
    · walk_at "gx"
      refine br_nf ?_
      walk_at "gx"
      exact q H (Same.refl _)
def sp_Z_tree_at (K : PySem.W.Frag) (C : Addr) (xa : XA) : Sp := fun vs H Q E => sp_X_tree_at K C xa vs H Q E ∨ sp_Y_tree_at K C xa vs H Q E
def sp_picks (_ : PySem.W.Frag) (_ : Addr) : Sp := fun vs H Q _ => ∃ (n k : Nat), vs = [.int (n : Int), .int (k : Int)] ∧ n ≤ 40 ∧ k ≤ n ∧ Q (.int (bin n k : Int)) H
theorem ok_picks {f : Addr} {fd : FuncData} (F : Fun K "picks" "picks" s_picks f fd) (T : Txt K mg C xa)  : FnOk P w K mg base CX0 1 f fd ["many", "size"] (sp_picks K C) := by
  refine F.ok sc_picks (fun vs H Q E h => ?_) (fun cdv A outer s H vs Q E hr h => ?_)
  · obtain ⟨n, m, rfl, hn, hk, q⟩ := h
    rfl
  · obtain ⟨n, m, rfl, hn, hk, q⟩ := h
    have hcl := T.cl
    have hnK := T.nK
    refine ⟨_, (pss_cons (ps_set (i := 2) sc_picks.nd rfl (by first | exact Or.inl rfl | exact Or.inr rfl) pe_int)
      (pss_cons (ps_for PassesOwn.never rfl (pi_range1 (by rfl) T.b_range (pa_cons (pv 1) pa_nil)) (pg_name (i := 3) sc_picks.nd rfl (by first | exact Or.inl rfl | exact Or.inr rfl)) (pss_one (ps_set (i := 2) sc_picks.nd rfl (by first | exact Or.inl rfl | exact Or.inr rfl) (pe_op op_fdiv (pe_op op_mul (pv 2) (pe_op op_sub (pv 0) (pv 3))) (pe_op op_add (pv 3) pe_int)))))
      (pss_one (ps_ret (pv 2))))), ?_⟩
    walk_at "go"
    refine r_loop0 (fun i σ H' => ∃ v3, σ = [some (.int (n : Int)), some (.int (m : Int)), some (.int (bin n i : Int)), v3] ∧ H' = H) ⟨_, by rw [bin_zero] <;> rfl, rfl⟩ ?_ ?_
    · rintro i σ H' hi ⟨v3, rfl, rfl⟩
      have hil : i < m := by omega
      have h1 := bin_step n i
      have e : (bin n i : Int) * ((n : Int) - (i : Int)) = (bin n (i + 1) : Int) * ((i : Int) + 1) := by
        rw [show (n : Int) - (i : Int) = ((n - i : Nat) : Int) by omega, show (i : Int) + 1 = ((i + 1 : Nat) : Int) by omega, ← Int.natCast_mul, ← Int.natCast_mul, h1]
      walk_at "go"
      rw [e, Int.mul_ediv_cancel _ (by omega)]
      exact ⟨_, rfl, rfl⟩
    · rintro σ H' ⟨v3, rfl, rfl⟩
      rw [show (m : Int).toNat = m by omega]
      walk_at "go"
      exact q
def sp_head_of (_ : PySem.W.Frag) (_ : Addr) : Sp := fun vs H Q _ => ∃ (a : Addr) (xs : List V) (l r : BT) (f : Nat) (top : Option Nat), vs = [.ref a, .int (f : Int), .int ((f + (BT.node l r).size : Nat) : Int)] ∧ H a = some (.lst xs) ∧ Sub xs (.node l r) f top ∧ Out top f (f + (BT.node l r).size) ∧ f + (BT.node l r).size ≤ 63 ∧ Q (.int ((f + l.size : Nat) : Int)) H
theorem ok_head_of {f : Addr} {fd : FuncData} (F : Fun K "head_of" "head_of" s_head_of f fd) (T : Txt K mg C xa)  : FnOk P w K mg base CX0 1 f fd ["tree", "first", "behind"] (sp_head_of K C) := by
  refine F.ok sc_head_of (fun vs H Q E h => ?_) (fun cdv A outer s H vs Q E hr h => ?_)
  · obtain ⟨a, xs, l, r, f, top, rfl, hS, hSub, hO, hn, q⟩ := h
    rfl
  · obtain ⟨a, xs, l, r, f, top, rfl, hS, hSub, hO, hn, q⟩ := h
    have hcl := T.cl
    have hnK := T.nK
    refine ⟨_, (pss_cons (ps_for PassesOwn.never rfl (pi_range2 (by rfl) T.b_range (pa_cons (pv 1) (pa_cons (pv 2) pa_nil))) (pg_name (i := 3) sc_head_of.nd rfl (by first | exact Or.inl rfl | exact Or.inr rfl)) (pss_one (ps_if (PW.pt (pw_or (pt_cmpR o_isN (pe_ix ix_list (pv 0) (pv 3) (fun _ _ => rfl)) pe_non (nomark _)) (pw_or1 (pt_not (pt_chain op_le op_lt (pv 1) (pe_ix ix_list (pv 0) (pv 3) (fun _ _ => rfl)) (pv 2)))))) (pss_one (ps_ret (pv 3))) pss_nil)))
      (pss_one (ps_ret pe_non))), ?_⟩
    have hs : (BT.node l r).size = l.size + 1 + r.size := rfl
    generalize hsz : (BT.node l r).size = sz at *
    walk_at "go"
    refine r_loopR (fun i σ H' => ∃ v3, i ≤ l.size ∧ σ = [some (.ref a), some (.int (f : Int)), some (.int ((f + sz : Nat) : Int)), v3] ∧ H' = H) ⟨_, Nat.zero_le _, rfl, rfl⟩ ?_ ?_
    · rintro i σ H' hi ⟨v3, hil, rfl, rfl⟩
      by_cases c : i < l.size
      · obtain ⟨q', hq, q1, q2⟩ := hSub.before c
        rw [hsz] at q2
        walk_at "go"
        walk_at "andor"
        walk_at "go"
        refine iteF ?_
        walk_at "go"
        refine brT (by omega) ?_
        walk_at "go"
        refine brNF (by omega) ?_
        walk_at "go"
        exact ⟨_, by omega, rfl, rfl⟩
      · obtain rfl : i = l.size := by omega
        have hq := hSub.head
        cases top with
        | none =>
          replace hq : xs[f + l.size]? = some .non := hq
          walk_at "go"
          walk_at "andor"
          walk_at "go"
          refine iteT ?_
          refine iteT ?_
          walk_at "go"
          rw [show (f : Int) + (l.size : Int) = ((f + l.size : Nat) : Int) by omega]
          exact q
        | some t =>
          have ho := hO t rfl
          replace hq : xs[f + l.size]? = some (.int (t : Int)) := hq
          walk_at "go"
          walk_at "andor"
          walk_at "go"
          refine brF (by intro h; cases h) ?_
          walk_at "go"
          refine brD (fun c1 => ?_) (fun c1 => ?_)
          · walk_at "go"
            refine brNT (by omega) ?_
            walk_at "go"
            rw [show (f : Int) + (l.size : Int) = ((f + l.size : Nat) : Int) by omega]
            exact q
          · walk_at "go"
            refine iteT ?_
            walk_at "go"
            rw [show (f : Int) + (l.size : Int) = ((f + l.size : Nat) : Int) by omega]
            exact q
    · rintro σ H' ⟨v3, hil, rfl, rfl⟩
      omega
theorem cmul_bin {n k : Nat} {t : BT} (h : n ≤ 40) (ht : t.size ≤ 40) : CMulW (bin n k : Int) (cnt t : Int) := wide_mul (a := 41) (b := 160) (by have := bin_lt k h; omega) (by have := cnt_lt ht; omega) (by decide) (by decide) (by decide)
theorem cmul_cnt {x : Nat} {t u : BT} (h : x < 2 ^ 41) (ht : t.size ≤ 40) (hu : u.size ≤ 40) : CMulW ((x : Int) * (cnt t : Int)) (cnt u : Int) := by
  refine wide_mul (a := 41 + 160) (b := 160) ?_ (by have := cnt_lt hu; omega) (by decide) (by decide) (by decide)
  exact wide_lt (by omega) (by have := cnt_lt ht; omega)
def sp_count (_ : PySem.W.Frag) (_ : Addr) (n : Nat) : Sp := fun vs H Q _ => ∃ (a : Addr) (f : Nat) (top : Option Nat) (xs : List V) (t : BT), vs = [.ref a, .int (f : Int), .int ((f + t.size : Nat) : Int)] ∧ H a = some (.lst xs) ∧ Sub xs t f top ∧ Out top f (f + t.size) ∧ f + t.size ≤ 40 ∧ t.size < n ∧ Q (.int (cnt t : Int)) H
theorem ok_count {f : Addr} {fd : FuncData} {n : Nat} (F : Fun K "count" "count" s_count f fd) (T : Txt K mg C xa) (c_count : C8.Cal P w K mg base (1 + n) "count" (sp_count K C n) []) (c_picks : C8.Cal P w K mg base 1 "picks" (sp_picks K C) []) (c_head_of : C8.Cal P w K mg base 1 "head_of" (sp_head_of K C) []) : FnOk P w K mg base CX0 (1 + n + 1) f fd ["tree", "first", "behind"] (sp_count K C (n + 1)) := by
  refine F.ok sc_count (fun vs H Q E h => ?_) (fun cdv A outer s H vs Q E hr h => ?_)
  · obtain ⟨a, f, top, xs, t, rfl, hX, hSub, hO, hn, hlt, q⟩ := h
    rfl
  · obtain ⟨a, f, top, xs, t, rfl, hX, hSub, hO, hn, hlt, q⟩ := h
    have hcl := T.cl
    have hnK := T.nK
    refine ⟨_, (pss_cons (ps_if (pt_cmpR op_eq (pv 1) (pv 2) (nomark _)) (pss_one (ps_ret pe_int)) pss_nil)
      (pss_cons (ps_set (i := 3) sc_count.nd rfl (by first | exact Or.inl rfl | exact Or.inr rfl) (C8.pe_c c_head_of hr (by omega) rfl (pa_cons (pv 0) (pa_cons (pv 1) (pa_cons (pv 2) pa_nil)))))
      (pss_cons (ps_set (i := 4) sc_count.nd rfl (by first | exact Or.inl rfl | exact Or.inr rfl) (C8.pe_c c_picks hr (by omega) rfl (pa_cons (pe_op op_sub (pe_op op_sub (pv 2) (pv 1)) pe_int) (pa_cons (pe_op op_sub (pv 3) (pv 1)) pa_nil))))
      (pss_one (ps_ret (pe_op op_mulW (pe_op op_mulW (pv 4) (C8.pe_c c_count hr (by omega) rfl (pa_cons (pv 0) (pa_cons (pv 1) (pa_cons (pv 3) pa_nil))))) (C8.pe_c c_count hr (by omega) rfl (pa_cons (pv 0) (pa_cons (pe_op op_add (pv 3) pe_int) (pa_cons (pv 2) pa_nil)))))))))), ?_⟩
    walk_at "go"
    refine brD (fun c1 => ?_) (fun c1 => ?_)
    · walk_at "go"
      cases t with
      | nil => exact q
      | node l r =>
        have hs : (BT.node l r).size = l.size + 1 + r.size := rfl
        omega
    · walk_at "go"
      cases t with
      | nil => exact absurd rfl c1
      | node l r =>
        have hs : (BT.node l r).size = l.size + 1 + r.size := rfl
        have hrk : cnt (BT.node l r) = bin (l.size + r.size) l.size * cnt l * cnt r := rfl
        refine ⟨a, xs, l, r, f, top, rfl, hX, hSub, hO, by omega, ?_⟩
        have hl := hSub.left
        have hr := hSub.right
        generalize hsz : (BT.node l r).size = sz at *
        generalize hRk : cnt (BT.node l r) = rk at *
        walk_at "go"
        refine ⟨l.size + r.size, l.size, ?_, by omega, by omega, ?_⟩
        · rw [show ((l.size + r.size : Nat) : Int) = ((f + sz : Nat) : Int) - (f : Int) - 1 by omega, show (l.size : Int) = ((f + l.size : Nat) : Int) - (f : Int) by omega] <;> rfl
        walk_at "go"
        refine ⟨a, f, some (f + l.size), xs, l, rfl, hX, hl, Out.left _ _, by omega, by omega, ?_⟩
        have hm := cmul_bin (n := l.size + r.size) (k := l.size) (t := l) (by omega) (by omega)
        have hm2 := cmul_cnt (x := bin (l.size + r.size) l.size) (t := l) (u := r) (bin_lt _ (by omega)) (by omega) (by omega)
        walk_at "go"
        refine ⟨a, f + l.size + 1, some (f + l.size), xs, r, ?_, hX, hr, Out.right _ _, by omega, by omega, ?_⟩
        · rw [show ((f + l.size + 1 + r.size : Nat) : Int) = ((f + sz : Nat) : Int) by omega, show ((f + l.size + 1 : Nat) : Int) = ((f + l.size : Nat) : Int) + 1 by omega] <;> rfl
        walk_at "go"
        rw [show (bin (l.size + r.size) l.size : Int) * (cnt l : Int) * (cnt r : Int) = (rk : Int) by rw [hrk, Int.natCast_mul, Int.natCast_mul]]
        exact q
theorem no_count {K : PySem.W.Frag} {C : Addr} : ∀ vs H Q E, ¬ sp_count K C 0 vs H Q E := by
  rintro vs H Q E ⟨a, f, top, xs, t, rfl, hX, hSub, hO, hn, hlt, q⟩
  omega
def sp_many_orders (_ : PySem.W.Frag) (_ : Addr) : Sp := fun vs H Q _ => ∃ (a : Addr) (t : BT), vs = [.ref a] ∧ H a = some (.lst (t.codeV 0 none)) ∧ 1 ≤ t.size ∧ t.size ≤ 40 ∧ ∀ (H' : Hp), Same H H' → Q (.int (cnt t : Int)) H'
theorem ok_many_orders {f : Addr} {fd : FuncData} (F : Fun K "many_orders" "many_orders" s_many_orders f fd) (T : Txt K mg C xa) (c_count : C8.Cal P w K mg base 43 "count" (sp_count K C 42) []) (c_ask_tree : C8.Cal P w K mg base 45 "ask_tree" (sp_ask_tree K C) []) : FnOk P w K mg base CX0 46 f fd ["tree"] (sp_many_orders K C) := by
  refine F.ok sc_many_orders (fun vs H Q E h => ?_) (fun cdv A outer s H vs Q E hr h => ?_)
  · obtain ⟨a, t, rfl, hS, h1, hn, q⟩ := h
    rfl
  · obtain ⟨a, t, rfl, hS, h1, hn, q⟩ := h
    have hcl := T.cl
    have hnK := T.nK
    refine ⟨_, (pss_cons (ps_expr (C8.pe_c c_ask_tree hr (by decide) rfl (pa_cons (pv 0) pa_nil)))
      (pss_one (ps_ret (C8.pe_c c_count hr (by decide) rfl (pa_cons (pv 0) (pa_cons pe_int (pa_cons (pe_callB c_len (by rfl) T.b_len PySem.boot_len (pa_cons (pv 0) pa_nil)) pa_nil))))))), ?_⟩
    have hvl := BT.codeV_len t 0 none
    walk_at "go"
    refine ⟨a, t.codeV 0 none, rfl, hS, BT.codeV_ok _ _ _, by omega, by omega, ⟨t, rfl⟩, fun H1 s1 => ?_⟩
    have hS1 := s1 _ _ hS
    walk_at "go"
    rw [hvl]
    refine ⟨a, 0, none, _, t, by rw [Nat.zero_add] <;> rfl, hS1, Sub.whole t, Out.none _ _, by omega, by omega, ?_⟩
    exact q H1 s1
def sp_Y_order_at (_ : PySem.W.Frag) (_ : Addr) (xa : XA) : Sp := fun vs H _ E => ∃ (a : Addr) (t : BT) (m : Int), vs = [.ref a, .int m] ∧ H a = some (.lst (t.codeV 0 none)) ∧ 1 ≤ t.size ∧ t.size ≤ 40 ∧ ¬ (0 ≤ m ∧ m < (cnt t : Int)) ∧ ∀ (H' : Hp), Same H H' → E (.ref xa.NoNumber) none H'
theorem ok_Y_order_at {f : Addr} {fd : FuncData} (F : Fun K "order_at" "order_at" s_order_at f fd) (T : Txt K mg C xa) (c_many_orders : C8.Cal P w K mg base 46 "many_orders" (sp_many_orders K C) []) : FnOk P w K mg base (L2.CX P w) 47 f fd ["tree", "number"] (sp_Y_order_at K C xa) := by
  refine F.okX sc_order_at (fun vs H Q E h => ?_) (fun cdv A outer s H vs Q E hr h => ?_)
  · obtain ⟨a, t, m, rfl, hS, h1, hn, hno, q⟩ := h
    rfl
  · obtain ⟨a, t, m, rfl, hS, h1, hn, hno, q⟩ := h
    have hcl := T.cl
    have hnK := T.nK
    refine ⟨_, (pss_cons (ps_set (i := 2) sc_order_at.nd rfl (by first | exact Or.inl rfl | exact Or.inr rfl) (C8.pe_c c_many_orders hr (by decide) rfl (pa_cons (pv 0) pa_nil)))
      (pss_cons (ps_if (pt_not (pt_chain op_le op_lt pe_int (pv 1) (pv 2))) (pss_one (ps_raise rfl (takes_of rfl rfl rfl rfl) (pmk_own PySem.F.excBase_ValueError T.x_NoNumber T.g_NoNumber T.kp_NoNumber (raises_own T.su_NoNumber T.ty_NoNumber) (by exact rfl)))) pss_nil)
      (pss_cons ps_never
      (pss_cons ps_never
      (pss_one ps_never))))), ?_⟩
    walk_at "gx"
    refine ⟨a, t, rfl, hS, h1, hn, fun H1 s1 => ?_⟩
    walk_at "gx"
    refine brD (fun c => ?_) (fun c => ?_)
    · walk_at "gx"
      refine brNT (by omega) ?_
      walk_at "gx"
      exact q H1 s1
    · walk_at "gx"
      refine br_nf ?_
      walk_at "gx"
      exact q H1 s1
def sp_X__law_no_number (_ : PySem.W.Frag) (_ : Addr) (xa : XA) : Sp := fun vs H _ E => ∃ (c f : Int), vs = [.int c, .int f] ∧ 0 ≤ f ∧ ∀ (H' : Hp), Same H H' → E (.ref xa.NoNumber) none H'
theorem ok_X__law_no_number {f : Addr} {fd : FuncData} (F : Fun K "_law_no_number" "_law_no_number" s__law_no_number f fd) (T : Txt K mg C xa) (c_X_many_trees : CalX P w K mg base 1 "many_trees" (sp_X_many_trees K C xa)) (c_Z_tree_at : CalX P w K mg base 3 "tree_at" (sp_Z_tree_at K C xa)) (c_Y_order_at : CalX P w K mg base 47 "order_at" (sp_Y_order_at K C xa)) : FnOk P w K mg base (L2.CX P w) 48 f fd ["cell", "far"] (sp_X__law_no_number K C xa) := by
  refine F.okX sc__law_no_number (fun vs H Q E h => ?_) (fun cdv A outer s H vs Q E hr h => ?_)
  · obtain ⟨c, f, rfl, hf, q⟩ := h
    rfl
  · obtain ⟨c, f, rfl, hf, q⟩ := h
    have hcl := T.cl
    have hnK := T.nK
    refine ⟨_, (pss_cons (ps_set (i := 2) sc__law_no_number.nd rfl (by first | exact Or.inl rfl | exact Or.inr rfl) (pe_op op_mod (pv 0) pe_int))
      (pss_one (ps_if (pt_cmpR op_eq (pv 2) pe_int (nomark _)) (pss_one (ps_expr (pe_cX c_X_many_trees hr (by decide) rfl (takes_of rfl rfl rfl rfl) (pa_cons (pe_ix ix_list (pe_lst (pa_cons pe_int (pa_cons (pe_op op_sub (pe_un un_neg pe_int) (pv 1)) (pa_cons pe_int (pa_cons (pe_op op_add pe_int (pv 1)) pa_nil))))) (pe_op op_mod (pe_op op_fdiv (pv 0) pe_int) pe_int) (fun _ _ => rfl)) pa_nil)))) (pss_one (ps_if (pt_cmpR op_eq (pv 2) pe_int (nomark _)) (pss_cons (ps_set (i := 3) sc__law_no_number.nd rfl (by first | exact Or.inl rfl | exact Or.inr rfl) (pe_lst (pa_cons (pe_tup (pa_cons pe_int (pa_cons pe_int pa_nil))) (pa_cons (pe_tup (pa_cons pe_int (pa_cons (pe_op op_add pe_int (pv 1)) pa_nil))) (pa_cons (pe_tup (pa_cons pe_int (pa_cons (pe_op op_sub (pe_un un_neg pe_int) (pv 1)) pa_nil))) (pa_cons (pe_tup (pa_cons pe_int (pa_cons pe_int pa_nil))) (pa_cons (pe_tup (pa_cons (pe_op op_add pe_int (pv 1)) (pa_cons pe_int pa_nil))) (pa_cons (pe_tup (pa_cons pe_int (pa_cons pe_int pa_nil))) pa_nil))))))))
      (pss_cons (ps_set (i := 4) sc__law_no_number.nd rfl (by first | exact Or.inl rfl | exact Or.inr rfl) (pe_ix ix_list (pv 3) (pe_op op_mod (pe_op op_fdiv (pv 0) pe_int) pe_int) (fun _ _ => rfl)))
      (pss_one (ps_expr (pe_cX c_Z_tree_at hr (by decide) rfl (takes_of rfl rfl rfl rfl) (pa_cons (pe_ix ix_tup (pv 4) pe_int (fun _ _ => rfl)) (pa_cons (pe_ix ix_tup (pv 4) pe_int (fun _ _ => rfl)) pa_nil))))))) (pss_one (ps_expr (pe_cX c_Y_order_at hr (by decide) rfl (takes_of rfl rfl rfl rfl) (pa_cons (pe_lst (pa_cons pe_int (pa_cons pe_non (pa_cons pe_int pa_nil)))) (pa_cons (pe_ix ix_list (pe_lst (pa_cons pe_int (pa_cons (pe_op op_add pe_int (pv 1)) (pa_cons (pe_op op_sub (pe_un un_neg pe_int) (pv 1)) pa_nil)))) (pe_op op_mod (pe_op op_fdiv (pv 0) pe_int) pe_int) (fun _ _ => rfl)) pa_nil)))))))))), ?_⟩
    walk_at "gx"
    refine brD (fun c1 => ?_) (fun c1 => ?_)
    · have y0 := Int.emod_nonneg (c / 3) (show (4 : Int) ≠ 0 by decide)
      have y1 := Int.emod_lt_of_pos (c / 3) (show (0 : Int) < 4 by decide)
      obtain ⟨v, hv, i, rfl, hi⟩ := AllV.pick (P := fun v => ∃ i : Int, v = .int i ∧ ¬ (1 ≤ i ∧ i ≤ 40)) (vs := [V.int 0, V.int (-1 - f), V.int 41, V.int (41 + f)]) (i := c / 3 % 4) (.cons ⟨_, rfl, by omega⟩ (.cons ⟨_, rfl, by omega⟩ (.cons ⟨_, rfl, by omega⟩ (.cons ⟨_, rfl, by omega⟩ .nil)))) y0 y1
      walk_at "gx"
      intro a H1 na s1 ha
      walk_at "gx"
      try refine r_ixL (VT.SqL.lst ha) hv ?_
      walk_at "gx"
      exact ⟨i, rfl, hi, fun H' s => q H' (s1.trans s)⟩
    walk_at "gx"
    refine brD (fun c2 => ?_) (fun c2 => ?_)
    · have y0 := Int.emod_nonneg (c / 3) (show (6 : Int) ≠ 0 by decide)
      have y1 := Int.emod_lt_of_pos (c / 3) (show (0 : Int) < 6 by decide)
      walk_at "gx"
      intro a1 H1 n1 s1 h1
      walk_at "gx"
      intro a2 H2 n2 s2 h2
      walk_at "gx"
      intro a3 H3 n3 s3 h3
      walk_at "gx"
      intro a4 H4 n4 s4 h4
      walk_at "gx"
      intro a5 H5 n5 s5 h5
      walk_at "gx"
      intro a6 H6 n6 s6 h6
      walk_at "gx"
      intro la H7 n7 s7 h7
      walk_at "gx"
      have fin : ∀ (H' : Hp), Same H7 H' → E (.ref xa.NoNumber) none H' := fun H' s => q H' (((((((s1.trans s2).trans s3).trans s4).trans s5).trans s6).trans s7).trans s)
      obtain ⟨v, hv, t, i, j, rfl, ht, hij⟩ := AllV.pick (P := fun v => ∃ (t : Addr) (i j : Int), v = .ref t ∧ H7 t = some (.tup [.int i, .int j]) ∧ ∀ Q : VK, sp_Z_tree_at K C xa [.int i, .int j] H7 Q E) (vs := [.ref a1, .ref a2, .ref a3, .ref a4, .ref a5, .ref a6]) (i := c / 3 % 6) (.cons ⟨a1, _, _, rfl, by walk_at "hp", fun Q => .inr ⟨3, _, rfl, by decide, by decide, by decide, fin⟩⟩ (.cons ⟨a2, _, _, rfl, by walk_at "hp", fun Q => .inr ⟨3, _, rfl, by decide, by decide, by have : (cat 3 : Int) = 5 := rfl; omega, fin⟩⟩ (.cons ⟨a3, _, _, rfl, by walk_at "hp", fun Q => .inr ⟨3, _, rfl, by decide, by decide, by omega, fin⟩⟩ (.cons ⟨a4, _, _, rfl, by walk_at "hp", fun Q => .inl ⟨0, 0, rfl, by decide, by decide, fin⟩⟩ (.cons ⟨a5, _, _, rfl, by walk_at "hp", fun Q => .inl ⟨_, 0, rfl, by decide, by omega, fin⟩⟩ (.cons ⟨a6, _, _, rfl, by walk_at "hp", fun Q => .inr ⟨1, _, rfl, by decide, by decide, by decide, fin⟩⟩ .nil)))))) y0 y1
      try refine r_ixL (VT.SqL.lst h7) hv ?_
      walk_at "gx"
      exact hij _
    walk_at "gx"
    intro a H1 na s1 ha
    walk_at "gx"
    intro b H2 nb s2 hb
    walk_at "gx"
    have y0 := Int.emod_nonneg (c / 3) (show (3 : Int) ≠ 0 by decide)
    have y1 := Int.emod_lt_of_pos (c / 3) (show (0 : Int) < 3 by decide)
    obtain ⟨v, hv, i, rfl, hi⟩ := AllV.pick (P := fun v => ∃ i : Int, v = .int i ∧ ¬ (0 ≤ i ∧ i < 2)) (vs := [V.int 2, V.int (2 + f), V.int (-1 - f)]) (i := c / 3 % 3) (.cons ⟨_, rfl, by omega⟩ (.cons ⟨_, rfl, by omega⟩ (.cons ⟨_, rfl, by omega⟩ .nil))) y0 y1
    try refine r_ixL (VT.SqL.lst hb) hv ?_
    walk_at "gx"
    have e2 : (cnt t0 : Int) = 2 := rfl
    exact ⟨a, t0, i, rfl, s2 _ _ ha, by decide, by decide, by omega, fun H' s => q H' ((s1.trans s2).trans s)⟩
def sp_X_ask_sky (K : PySem.W.Frag) (_ : Addr) (xa : XA) : Sp := fun vs H _ E => ∃ (a : Addr) (ns : List Int), vs = [.ref a] ∧ SqL K H a (ns.map V.int) ∧ (∃ x ∈ ns, x < 0) ∧ ∀ (H' : Hp), Same H H' → E (.ref xa.NoSky) none H'
theorem ok_X_ask_sky {f : Addr} {fd : FuncData} (F : Fun K "ask_sky" "ask_sky" s_ask_sky f fd) (T : Txt K mg C xa)  : FnOk P w K mg base (L2.CX P w) 1 f fd ["numbers"] (sp_X_ask_sky K C xa) := by
  refine F.okX sc_ask_sky (fun vs H Q E h => ?_) (fun cdv A outer s H vs Q E hr h => ?_)
  · obtain ⟨a, ns, rfl, hS, hx, q⟩ := h
    rfl
  · obtain ⟨a, ns, rfl, hS, hx, q⟩ := h
    have hcl := T.cl
    have hnK := T.nK
    refine ⟨_, (pss_one (ps_for (passes_of rfl) rfl (pi_list (pv 0)) (pg_name (i := 1) sc_ask_sky.nd rfl (by first | exact Or.inl rfl | exact Or.inr rfl)) (pss_one (ps_if (pt_cmpR op_lt (pv 1) pe_int (nomark _)) (pss_one (ps_raise rfl (takes_of rfl rfl rfl rfl) (pmk_own PySem.F.excBase_ValueError T.x_NoSky T.g_NoSky T.kp_NoSky (raises_own T.su_NoSky T.ty_NoSky) (by exact rfl)))) pss_nil)))), ?_⟩
    walk_at "gx"
    refine r_loopI (ns := ns) (fun i σ H' => H' = H ∧ (∃ v, σ = [some (.ref a), v]) ∧ ∀ j, j < i → ∀ z, ns[j]? = some z → 0 ≤ z) ⟨rfl, ⟨_, rfl⟩, fun j hj => absurd hj (Nat.not_lt_zero _)⟩ (fun i σ H' _ hp => hp.1 ▸ hS) ?_ ?_
    · rintro i z σ H' hz ⟨rfl, ⟨v, rfl⟩, hall⟩
      walk_at "gx"
      refine brD (fun c => ?_) (fun c => ?_)
      · walk_at "gx"
        exact q H' (Same.refl _)
      · walk_at "gx"
        refine ⟨rfl, ⟨_, rfl⟩, fun j hj y hy => ?_⟩
        by_cases e : j = i
        · rw [e, hz] at hy
          have := Option.some.inj hy
          omega
        · exact hall j (by omega) y hy
    · rintro σ H' ⟨rfl, ⟨v, rfl⟩, hall⟩
      obtain ⟨x, hm, hx⟩ := hx
      obtain ⟨j, hj, e⟩ := List.mem_iff_getElem.mp hm
      have := hall j hj x (by rw [List.getElem?_eq_getElem hj, e])
      omega
def sp_X_widest (_ : PySem.W.Frag) (C : Addr) (xa : XA) : Sp := fun vs H _ E => ∃ (p dx l : Addr) (ns : List Int), vs = [.ref p] ∧ H p = some (.ins C dx (rowF l)) ∧ H l = some (.lst (ns.map V.int)) ∧ (∃ x ∈ ns, x < 0) ∧ ∀ (H' : Hp), Same H H' → E (.ref xa.NoSky) none H'
theorem ok_X_widest {f : Addr} {fd : FuncData} (F : Fun K "widest" "widest" s_widest f fd) (T : Txt K mg C xa) (c_X_ask_sky : CalX P w K mg base 1 "ask_sky" (sp_X_ask_sky K C xa)) (c_Row_numbers : C8.Met P w K mg base 1 C "numbers" (sp_Row_numbers K C) []) : FnOk P w K mg base (L2.CX P w) 2 f fd ["row"] (sp_X_widest K C xa) := by
  refine F.okX sc_widest (fun vs H Q E h => ?_) (fun cdv A outer s H vs Q E hr h => ?_)
  · obtain ⟨p, dx, l, ns, rfl, hp, hL, hx, q⟩ := h
    rfl
  · obtain ⟨p, dx, l, ns, rfl, hp, hL, hx, q⟩ := h
    have hcl := T.cl
    have hnK := T.nK
    refine ⟨_, (pss_cons (ps_set (i := 1) sc_widest.nd rfl (by first | exact Or.inl rfl | exact Or.inr rfl) (C8.pe_mt0 c_Row_numbers hr (by decide) (pv 0)))
      (pss_cons (ps_expr (pe_cX c_X_ask_sky hr (by decide) rfl (takes_of rfl rfl rfl rfl) (pa_cons (pv 1) pa_nil)))
      (pss_cons ps_never
      (pss_cons ps_never
      (pss_cons ps_never
      (pss_one ps_never)))))), ?_⟩
    walk_at "gx"
    refine ⟨p, dx, l, ns, rfl, hp, hL, fun a na => ?_⟩
    have sA := same_new na (.lst (ns.map V.int))
    walk_at "gx"
    exact ⟨a, ns, rfl, VT.SqL.lst upd_same, hx, fun H' s => q H' (sA.trans s)⟩
def sp_Row___init__ (K : PySem.W.Frag) (C : Addr) : Sp := fun vs H Q _ => ∃ (p dx a : Addr) (ns : List Int), vs = [.ref p, .ref a] ∧ H p = some (.ins C dx []) ∧ SqL K H a (ns.map V.int) ∧ ns.length ≤ 40 ∧
  ∀ (l : Addr) (H' : Hp), H l = none → But p H H' → H' p = some (.ins C dx (rowF l)) → H' l = some (.lst (ns.map V.int)) → Q .non H'
theorem ok_Row___init__ {f : Addr} {fd : FuncData} (F : Fun K "__init__" "Row.__init__" s_Row___init__ f fd) (T : Txt K mg C xa)  : FnOk P w K mg base CX0 1 f fd ["self", "numbers"] (sp_Row___init__ K C) := by
  refine F.ok sc_Row___init__ (fun vs H Q E h => ?_) (fun cdv A outer s H vs Q E hr h => ?_)
  · obtain ⟨p, dx, a, ns, rfl, hp, hS, hl, q⟩ := h
    rfl
  · obtain ⟨p, dx, a, ns, rfl, hp, hS, hl, q⟩ := h
    have hcl := T.cl
    have hnK := T.nK
    refine ⟨_, (pss_cons (ps_if (pt_cmpR op_gt (pe_callB c_len (by rfl) T.b_len PySem.boot_len (pa_cons (pv 1) pa_nil)) (C8.pe_gc (v := .int 40) (by rfl) T.g_MOST) (nomark _)) (pss_one ps_never) pss_nil)
      (pss_one (ps_fld (pv 0) (pe_callTy c_listOf (by rfl) T.b_list (by decide +kernel) (pa_cons (pv 1) pa_nil)) rfl))), ?_⟩
    walk_at "go"
    try rw [List.length_map]
    refine brF (by omega) ?_
    walk_at "go"
    refine r_listOf hS fun l nl => ?_
    walk_at "go"
    have npl : p ≠ l := ne_of_none hp nl
    refine ⟨p, C, dx, [], rfl, up_get npl hp, T.cl, T.nK, (by show 0 < 1000; decide), ?_⟩
    exact q l _ nl (But.of (same_new nl _)).up upd_same (up_get npl.symm upd_same)
/-- Row(..) of a readable list of numbers -/
theorem mk_row {K : PySem.W.Frag} {C a : Addr} {ns : List Int} {H : Hp} {N : Addr → Hp → Prop} {E : XK} (hS : SqL K H a (ns.map V.int)) (hl : ns.length ≤ 40)
    (q : ∀ (x l d : Addr) (H' : Hp), Same H H' → H x = none → H l = none → x ≠ l → H' x = some (.ins C d (rowF l)) → H' l = some (.lst (ns.map V.int)) → N x H') :
    ∀ x dx, H x = none → H dx = none → dx ≠ x → sp_Row___init__ K C (.ref x :: ([.ref a] ++ [])) (upd (upd H dx (.own x)) x (.ins C dx [])) (fun v H2 => v = .non ∧ N x H2) E := by
  intro x dx nx ndx nex
  have s0 : Same H (upd (upd H dx (.own x)) x (.ins C dx [])) := fun b o e => by
    rw [upd_ne (ne_of_none e nx), upd_ne (ne_of_none e ndx)]
    exact e
  refine ⟨x, dx, a, ns, rfl, upd_same, s0.seq hS, hl, fun l H' nl b hx hL => ⟨rfl, ?_⟩⟩
  exact q x l dx H' (same_made nx ndx b) nx (s0.free nl) (ne_of_none upd_same nl) hx hL
def sp_X_water (_ : PySem.W.Frag) (C : Addr) (xa : XA) : Sp := fun vs H _ E => ∃ (p dx l : Addr) (ns : List Int), vs = [.ref p] ∧ H p = some (.ins C dx (rowF l)) ∧ H l = some (.lst (ns.map V.int)) ∧ (∃ x ∈ ns, x < 0) ∧ ∀ (H' : Hp), Same H H' → E (.ref xa.NoSky) none H'
theorem ok_X_water {f : Addr} {fd : FuncData} (F : Fun K "water" "water" s_water f fd) (T : Txt K mg C xa) (c_X_ask_sky : CalX P w K mg base 1 "ask_sky" (sp_X_ask_sky K C xa)) (c_Row_numbers : C8.Met P w K mg base 1 C "numbers" (sp_Row_numbers K C) []) : FnOk P w K mg base (L2.CX P w) 2 f fd ["row"] (sp_X_water K C xa) := by
  refine F.okX sc_water (fun vs H Q E h => ?_) (fun cdv A outer s H vs Q E hr h => ?_)
  · obtain ⟨p, dx, l, ns, rfl, hp, hL, hx, q⟩ := h
    rfl
  · obtain ⟨p, dx, l, ns, rfl, hp, hL, hx, q⟩ := h
    have hcl := T.cl
    have hnK := T.nK
    refine ⟨_, (pss_cons (ps_set (i := 1) sc_water.nd rfl (by first | exact Or.inl rfl | exact Or.inr rfl) (C8.pe_mt0 c_Row_numbers hr (by decide) (pv 0)))
      (pss_cons (ps_expr (pe_cX c_X_ask_sky hr (by decide) rfl (takes_of rfl rfl rfl rfl) (pa_cons (pv 1) pa_nil)))
      (pss_cons ps_never
      (pss_cons ps_never
      (pss_one ps_never))))), ?_⟩
    walk_at "gx"
    refine ⟨p, dx, l, ns, rfl, hp, hL, fun a na => ?_⟩
    have sA := same_new na (.lst (ns.map V.int))
    walk_at "gx"
    exact ⟨a, ns, rfl, VT.SqL.lst upd_same, hx, fun H' s => q H' (sA.trans s)⟩
def sp_ask_sky (K : PySem.W.Frag) (_ : Addr) : Sp := fun vs H Q _ => ∃ (a : Addr) (ns : List Int), vs = [.ref a] ∧ SqL K H a (ns.map V.int) ∧ (∀ x ∈ ns, 0 ≤ x) ∧ Q .non H
theorem ok_ask_sky {f : Addr} {fd : FuncData} (F : Fun K "ask_sky" "ask_sky" s_ask_sky f fd) (T : Txt K mg C xa)  : FnOk P w K mg base CX0 1 f fd ["numbers"] (sp_ask_sky K C) := by
  refine F.ok sc_ask_sky (fun vs H Q E h => ?_) (fun cdv A outer s H vs Q E hr h => ?_)
  · obtain ⟨a, ns, rfl, hS, hn, q⟩ := h
    rfl
  · obtain ⟨a, ns, rfl, hS, hn, q⟩ := h
    have hcl := T.cl
    have hnK := T.nK
    refine ⟨_, (pss_one (ps_for PassesOwn.never rfl (pi_list (pv 0)) (pg_name (i := 1) sc_ask_sky.nd rfl (by first | exact Or.inl rfl | exact Or.inr rfl)) (pss_one (ps_if (pt_cmpR op_lt (pv 1) pe_int (nomark _)) (pss_one ps_never) pss_nil)))), ?_⟩
    walk_at "go"
    refine r_loopI (ns := ns) (fun i σ H' => H' = H ∧ ∃ v, σ = [some (.ref a), v]) ⟨rfl, _, rfl⟩ (fun i σ H' _ hp => hp.1 ▸ hS) ?_ ?_
    · rintro i z σ H' hz ⟨rfl, v, rfl⟩
      have h0 := hn z (List.mem_of_getElem? hz)
      walk_at "go"
      refine brF (by omega) ?_
      walk_at "go"
      exact ⟨rfl, _, rfl⟩
    · rintro σ H' ⟨rfl, v, rfl⟩
      exact q
def sp_Y_widest (_ : PySem.W.Frag) (C : Addr) (xa : XA) : Sp := fun vs H _ E => ∃ (p dx l : Addr), vs = [.ref p] ∧ H p = some (.ins C dx (rowF l)) ∧ H l = some (.lst (([] : List Int).map V.int)) ∧ ∀ (H' : Hp), Same H H' → E (.ref xa.NoSky) none H'
theorem ok_Y_widest {f : Addr} {fd : FuncData} (F : Fun K "widest" "widest" s_widest f fd) (T : Txt K mg C xa) (c_ask_sky : C8.Cal P w K mg base 1 "ask_sky" (sp_ask_sky K C) []) (c_Row_numbers : C8.Met P w K mg base 1 C "numbers" (sp_Row_numbers K C) []) : FnOk P w K mg base (L2.CX P w) 2 f fd ["row"] (sp_Y_widest K C xa) := by
  refine F.okX sc_widest (fun vs H Q E h => ?_) (fun cdv A outer s H vs Q E hr h => ?_)
  · obtain ⟨p, dx, l, rfl, hp, hL, q⟩ := h
    rfl
  · obtain ⟨p, dx, l, rfl, hp, hL, q⟩ := h
    have hcl := T.cl
    have hnK := T.nK
    refine ⟨_, (pss_cons (ps_set (i := 1) sc_widest.nd rfl (by first | exact Or.inl rfl | exact Or.inr rfl) (C8.pe_mt0 c_Row_numbers hr (by decide) (pv 0)))
      (pss_cons (ps_expr (C8.pe_c c_ask_sky hr (by decide) rfl (pa_cons (pv 1) pa_nil)))
      (pss_cons (ps_if (pt_cmpR op_eq (pe_callB c_len (by rfl) T.b_len PySem.boot_len (pa_cons (pv 1) pa_nil)) pe_int (nomark _)) (pss_one (ps_raise rfl (takes_of rfl rfl rfl rfl) (pmk_own PySem.F.excBase_ValueError T.x_NoSky T.g_NoSky T.kp_NoSky (raises_own T.su_NoSky T.ty_NoSky) (by exact rfl)))) pss_nil)
      (pss_cons ps_never
      (pss_cons ps_never
      (pss_one ps_never)))))), ?_⟩
    walk_at "gx"
    refine ⟨p, dx, l, [], rfl, hp, hL, fun a na => ?_⟩
    have sA := same_new na (.lst (([] : List Int).map V.int))
    have hA := @upd_same H a (.lst (([] : List Int).map V.int))
    generalize upd H a (.lst (([] : List Int).map V.int)) = H1 at sA hA
    walk_at "gx"
    refine ⟨a, [], rfl, VT.SqL.lst hA, fun x hx => absurd hx List.not_mem_nil, ?_⟩
    walk_at "gx"
    refine brT (by decide) ?_
    walk_at "gx"
    exact q H1 sA
def sp_X__law_no_sky (_ : PySem.W.Frag) (_ : Addr) (xa : XA) : Sp := fun vs H _ E => ∃ (c f : Int), vs = [.int c, .int f] ∧ 0 ≤ f ∧ ∀ (H' : Hp), Same H H' → E (.ref xa.NoSky) none H'
theorem ok_X__law_no_sky {f : Addr} {fd : FuncData} (F : Fun K "_law_no_sky" "_law_no_sky" s__law_no_sky f fd) (T : Txt K mg C xa) (c_X_widest : CalX P w K mg base 2 "widest" (sp_X_widest K C xa)) (c_Row : C8.Mak P w K mg base 1 "Row" C (sp_Row___init__ K C) []) (c_X_water : CalX P w K mg base 2 "water" (sp_X_water K C xa)) (c_Y_widest : CalX P w K mg base 2 "widest" (sp_Y_widest K C xa)) : FnOk P w K mg base (L2.CX P w) 3 f fd ["cell", "far"] (sp_X__law_no_sky K C xa) := by
  refine F.okX sc__law_no_sky (fun vs H Q E h => ?_) (fun cdv A outer s H vs Q E hr h => ?_)
  · obtain ⟨c, f, rfl, hf, q⟩ := h
    rfl
  · obtain ⟨c, f, rfl, hf, q⟩ := h
    have hcl := T.cl
    have hnK := T.nK
    refine ⟨_, (pss_cons (ps_set (i := 2) sc__law_no_sky.nd rfl (by first | exact Or.inl rfl | exact Or.inr rfl) (pe_lst (pa_cons (pe_lst (pa_cons (pe_op op_sub (pe_un un_neg pe_int) (pv 1)) pa_nil)) (pa_cons (pe_lst (pa_cons pe_int (pa_cons pe_int (pa_cons (pe_un un_neg pe_int) pa_nil)))) (pa_cons (pe_lst (pa_cons (pe_op op_sub (pe_un un_neg pe_int) (pv 1)) (pa_cons pe_int pa_nil))) (pa_cons (pe_lst (pa_cons pe_int (pa_cons (pe_un un_neg pe_int) (pa_cons pe_int pa_nil)))) pa_nil))))))
      (pss_one (ps_if (pt_cmpR op_eq (pe_op op_mod (pv 0) pe_int) pe_int (nomark _)) (pss_one (ps_expr (pe_cX c_X_widest hr (by decide) rfl (takes_of rfl rfl rfl rfl) (pa_cons (C8.pe_mk c_Row hr (by decide) rfl (pa_cons (pe_ix ix_list (pv 2) (pe_op op_mod (pe_op op_fdiv (pv 0) pe_int) pe_int) (fun _ _ => rfl)) pa_nil)) pa_nil)))) (pss_one (ps_if (pt_cmpR op_eq (pe_op op_mod (pv 0) pe_int) pe_int (nomark _)) (pss_one (ps_expr (pe_cX c_X_water hr (by decide) rfl (takes_of rfl rfl rfl rfl) (pa_cons (C8.pe_mk c_Row hr (by decide) rfl (pa_cons (pe_ix ix_list (pv 2) (pe_op op_mod (pe_op op_fdiv (pv 0) pe_int) pe_int) (fun _ _ => rfl)) pa_nil)) pa_nil)))) (pss_one (ps_expr (pe_cX c_Y_widest hr (by decide) rfl (takes_of rfl rfl rfl rfl) (pa_cons (C8.pe_mk c_Row hr (by decide) rfl (pa_cons (pe_lst pa_nil) pa_nil)) pa_nil))))))))), ?_⟩
    have y0 := Int.emod_nonneg (c / 3) (show (4 : Int) ≠ 0 by decide)
    have y1 := Int.emod_lt_of_pos (c / 3) (show (0 : Int) < 4 by decide)
    walk_at "gx"
    intro a1 H1 n1 s1 h1
    walk_at "gx"
    intro a2 H2 n2 s2 h2
    walk_at "gx"
    intro a3 H3 n3 s3 h3
    walk_at "gx"
    intro a4 H4 n4 s4 h4
    walk_at "gx"
    intro la H5 n5 s5 h5
    walk_at "gx"
    obtain ⟨v, hv, t, ns, rfl, ht, hnl, hx⟩ := AllV.pick (P := fun v => ∃ (t : Addr) (ns : List Int), v = .ref t ∧ H5 t = some (.lst (ns.map V.int)) ∧ ns.length ≤ 40 ∧ ∃ x ∈ ns, x < 0) (vs := [.ref a1, .ref a2, .ref a3, .ref a4]) (i := c / 3 % 4) (.cons ⟨a1, [-1 - f], rfl, by walk_at "hp", Nat.le_of_ble_eq_true rfl, _, (.head _), by omega⟩ (.cons ⟨a2, [3, 2, -1], rfl, by walk_at "hp", Nat.le_of_ble_eq_true rfl, _, (.tail _ (.tail _ (.head _))), by omega⟩ (.cons ⟨a3, [-1 - f, 5], rfl, by walk_at "hp", Nat.le_of_ble_eq_true rfl, _, (.head _), by omega⟩ (.cons ⟨a4, [0, -7, 0], rfl, by walk_at "hp", Nat.le_of_ble_eq_true rfl, _, (.tail _ (.head _)), by omega⟩ .nil)))) y0 y1
    have sT : Same H H5 := ((((s1.trans s2).trans s3).trans s4).trans s5)
    refine brD (fun c1 => ?_) (fun c1 => ?_)
    · walk_at "gx"
      try refine r_ixL (VT.SqL.lst h5) hv ?_
      walk_at "gx"
      refine mk_row (VT.SqL.lst ht) hnl fun x l d H6 s6 nx nl ne hx' hl => ?_
      walk_at "gx"
      exact ⟨x, d, l, ns, rfl, hx', hl, hx, fun H' s => q H' ((sT.trans s6).trans s)⟩
    walk_at "gx"
    refine brD (fun c2 => ?_) (fun c2 => ?_)
    · walk_at "gx"
      try refine r_ixL (VT.SqL.lst h5) hv ?_
      walk_at "gx"
      refine mk_row (VT.SqL.lst ht) hnl fun x l d H6 s6 nx nl ne hx' hl => ?_
      walk_at "gx"
      exact ⟨x, d, l, ns, rfl, hx', hl, hx, fun H' s => q H' ((sT.trans s6).trans s)⟩
    walk_at "gx"
    intro b H6 nb s6 hb
    walk_at "gx"
    refine mk_row (ns := []) (VT.SqL.lst hb) (by decide) fun x l d H7 s7 nx nl ne hx' hl => ?_
    walk_at "gx"
    exact ⟨x, d, l, rfl, hx', hl, fun H' s => q H' (((sT.trans s6).trans s7).trans s)⟩
def sp_X__law_done (_ : PySem.W.Frag) (C : Addr) (xa : XA) : Sp := fun vs H _ E => ∃ (p dx l p' dx' l' : Addr) (ns ms : List Int) (w : Nat) (c f : Int), vs = [.int (w : Int), .int c, .int f, .ref p, .ref p'] ∧ H p = some (.ins C dx (rowF l)) ∧ H l = some (.lst (ns.map V.int)) ∧ ns.length = 3 ∧ H p' = some (.ins C dx' (rowF l')) ∧ H l' = some (.lst (ms.map V.int)) ∧ ms.length = 40 ∧ w < 7 ∧ 0 ≤ f ∧ ∀ (H' : Hp), Same H H' → E (.ref (xa.at w)) none H'
theorem ok_X__law_done {f : Addr} {fd : FuncData} (F : Fun K "_law_done" "_law_done" s__law_done f fd) (T : Txt K mg C xa) (c_X__law_no_row : CalX P w K mg base 4 "_law_no_row" (sp_X__law_no_row K C xa)) (c_X__law_no_place : CalX P w K mg base 3 "_law_no_place" (sp_X__law_no_place K C xa)) (c_X__law_no_stretch : CalX P w K mg base 3 "_law_no_stretch" (sp_X__law_no_stretch K C xa)) (c_X__law_no_tree : CalX P w K mg base 48 "_law_no_tree" (sp_X__law_no_tree K C xa)) (c_X__law_no_order : CalX P w K mg base 47 "_law_no_order" (sp_X__law_no_order K C xa)) (c_X__law_no_number : CalX P w K mg base 48 "_law_no_number" (sp_X__law_no_number K C xa)) (c_X__law_no_sky : CalX P w K mg base 3 "_law_no_sky" (sp_X__law_no_sky K C xa)) : FnOk P w K mg base (L2.CX P w) 49 f fd ["way", "cell", "far", "row", "full"] (sp_X__law_done K C xa) := by
  refine F.okX sc__law_done (fun vs H Q E h => ?_) (fun cdv A outer s H vs Q E hr h => ?_)
  · obtain ⟨p, dx, l, p', dx', l', ns, ms, w, c, f, rfl, hp, hL, hn, hp', hL', hm, hw, hf, q⟩ := h
    rfl
  · obtain ⟨p, dx, l, p', dx', l', ns, ms, w, c, f, rfl, hp, hL, hn, hp', hL', hm, hw, hf, q⟩ := h
    have hcl := T.cl
    have hnK := T.nK
    refine ⟨_, (pss_one (ps_if (pt_cmpR op_eq (pv 0) pe_int (nomark _)) (pss_one (ps_expr (pe_cX c_X__law_no_row hr (by decide) rfl (takes_of rfl rfl rfl rfl) (pa_cons (pv 3) (pa_cons (pv 4) (pa_cons (pv 1) pa_nil)))))) (pss_one (ps_if (pt_cmpR op_eq (pv 0) pe_int (nomark _)) (pss_one (ps_expr (pe_cX c_X__law_no_place hr (by decide) rfl (takes_of rfl rfl rfl rfl) (pa_cons (pv 3) (pa_cons (pv 1) (pa_cons (pv 2) pa_nil)))))) (pss_one (ps_if (pt_cmpR op_eq (pv 0) pe_int (nomark _)) (pss_one (ps_expr (pe_cX c_X__law_no_stretch hr (by decide) rfl (takes_of rfl rfl rfl rfl) (pa_cons (pv 3) (pa_cons (pv 1) (pa_cons (pv 2) pa_nil)))))) (pss_one (ps_if (pt_cmpR op_eq (pv 0) pe_int (nomark _)) (pss_one (ps_expr (pe_cX c_X__law_no_tree hr (by decide) rfl (takes_of rfl rfl rfl rfl) (pa_cons (pv 1) (pa_cons (pv 2) pa_nil))))) (pss_one (ps_if (pt_cmpR op_eq (pv 0) pe_int (nomark _)) (pss_one (ps_expr (pe_cX c_X__law_no_order hr (by decide) rfl (takes_of rfl rfl rfl rfl) (pa_cons (pv 1) (pa_cons (pv 2) pa_nil))))) (pss_one (ps_if (pt_cmpR op_eq (pv 0) pe_int (nomark _)) (pss_one (ps_expr (pe_cX c_X__law_no_number hr (by decide) rfl (takes_of rfl rfl rfl rfl) (pa_cons (pv 1) (pa_cons (pv 2) pa_nil))))) (pss_one (ps_expr (pe_cX c_X__law_no_sky hr (by decide) rfl (takes_of rfl rfl rfl rfl) (pa_cons (pv 1) (pa_cons (pv 2) pa_nil))))))))))))))))), ?_⟩
    walk_at "gx"
    refine brD (fun e => ?_) (fun e0 => ?_)
    · obtain rfl : w = 0 := by omega
      walk_at "gx"
      exact ⟨p, dx, l, p', dx', l', ns, ms, c, rfl, hp, hL, hn, hp', hL', hm, q⟩
    walk_at "gx"
    refine brD (fun e => ?_) (fun e1 => ?_)
    · obtain rfl : w = 1 := by omega
      walk_at "gx"
      exact ⟨p, dx, l, ns, c, f, rfl, hp, hL, hn, hf, q⟩
    walk_at "gx"
    refine brD (fun e => ?_) (fun e2 => ?_)
    · obtain rfl : w = 2 := by omega
      walk_at "gx"
      exact ⟨p, dx, l, ns, c, f, rfl, hp, hL, hn, hf, q⟩
    walk_at "gx"
    refine brD (fun e => ?_) (fun e3 => ?_)
    · obtain rfl : w = 3 := by omega
      walk_at "gx"
      exact ⟨c, f, rfl, hf, q⟩
    walk_at "gx"
    refine brD (fun e => ?_) (fun e4 => ?_)
    · obtain rfl : w = 4 := by omega
      walk_at "gx"
      exact ⟨c, f, rfl, hf, q⟩
    walk_at "gx"
    refine brD (fun e => ?_) (fun e5 => ?_)
    · obtain rfl : w = 5 := by omega
      walk_at "gx"
      exact ⟨c, f, rfl, hf, q⟩
    walk_at "gx"
    obtain rfl : w = 6 := by omega
    exact ⟨c, f, rfl, hf, q⟩
theorem cell_at {ns : List Int} {k : Int} (h0 : 0 ≤ k) (h : k < (ns.length : Int)) : atI (ns.map V.int) k = some (.int (ns.getD k.toNat 0)) := by
  have hk : k.toNat < ns.length := by omega
  refine r_at (j := k.toNat) (by omega) ?_
  rw [List.getElem?_map, List.getD_eq_getElem?_getD, List.getElem?_eq_getElem hk]
  rfl
theorem cell_no {ns : List Int} {k : Int} (h : ¬ k < (ns.length : Int)) : ns.getD k.toNat 0 = 0 := by
  rw [List.getD_eq_getElem?_getD, List.getElem?_eq_none (by omega)]
  rfl
def sp__law_cell_at (K : PySem.W.Frag) (_ : Addr) : Sp := fun vs H Q _ => ∃ (a : Addr) (ns : List Int) (k : Int), vs = [.ref a, .int k] ∧ SqL K H a (ns.map V.int) ∧ 0 ≤ k ∧ Q (.int (ns.getD k.toNat 0)) H
theorem ok__law_cell_at {f : Addr} {fd : FuncData} (F : Fun K "_law_cell_at" "_law_cell_at" s__law_cell_at f fd) (T : Txt K mg C xa)  : FnOk P w K mg base CX0 1 f fd ["script", "k"] (sp__law_cell_at K C) := by
  refine F.ok sc__law_cell_at (fun vs H Q E h => ?_) (fun cdv A outer s H vs Q E hr h => ?_)
  · obtain ⟨a, ns, k, rfl, hS, h0, q⟩ := h
    rfl
  · obtain ⟨a, ns, k, rfl, hS, h0, q⟩ := h
    have hcl := T.cl
    have hnK := T.nK
    refine ⟨_, (pss_cons (ps_if (pt_cmpR op_lt (pv 1) (pe_callB c_len (by rfl) T.b_len PySem.boot_len (pa_cons (pv 0) pa_nil)) (nomark _)) (pss_one (ps_ret (pe_ix ix_list (pv 0) (pv 1) (fun _ _ => rfl)))) pss_nil)
      (pss_one (ps_ret pe_int))), ?_⟩
    walk_at "go"
    try rw [List.length_map]
    refine brD (fun c => ?_) (fun c => ?_)
    · have c2 := cell_at h0 c
      walk_at "go"
      exact q
    · rw [cell_no c] at q
      walk_at "go"
      exact q
def sp_P__law_which (K : PySem.W.Frag) (_ : Addr) (xa : XA) : Addr → Value → Option Addr → Sp := fun a cls d vs H Q _ => ∃ (D : Addr) (b0 b1 b2 b3 b4 b5 b6 b7 : Bool), vs = [.ref a] ∧ cls = .ref D ∧ d = none ∧ ExcC K D ∧ PySem.W.kitOne K (.ref D) (.ref xa.NoRow) = some b0 ∧ PySem.W.kitOne K (.ref D) (.ref xa.NoPlace) = some b1 ∧ PySem.W.kitOne K (.ref D) (.ref xa.NoStretch) = some b2 ∧ PySem.W.kitOne K (.ref D) (.ref xa.NoTree) = some b3 ∧ PySem.W.kitOne K (.ref D) (.ref xa.NoOrder) = some b4 ∧ PySem.W.kitOne K (.ref D) (.ref xa.NoNumber) = some b5 ∧ PySem.W.kitOne K (.ref D) (.ref xa.NoSky) = some b6 ∧ PySem.W.kitOne K (.ref D) (.type "ValueError") = some b7 ∧
  ∀ (l : Addr) (H' : Hp), Same H H' → H' l = some (.lst ([b0, b1, b2, b3, b4, b5, b6, b7].map V.bl)) → Q (.ref l) H'
theorem ok_P__law_which {f : Addr} {fd : FuncData} (F : Fun K "_law_which" "_law_which" s__law_which f fd) (T : Txt K mg C xa)  : FnP P w K mg base 1 f fd ["e"] (sp_P__law_which K C xa) := by
  refine okP F sc__law_which (fun a c d vs H Q E h => ?_) (fun cdv q c d A outer s H vs Q E hz hf h => ?_)
  · obtain ⟨D, b0, b1, b2, b3, b4, b5, b6, b7, rfl, rfl, rfl, hC, k0, k1, k2, k3, k4, k5, k6, k7, y⟩ := h
    rfl
  · obtain ⟨D, b0, b1, b2, b3, b4, b5, b6, b7, rfl, rfl, rfl, hC, k0, k1, k2, k3, k4, k5, k6, k7, y⟩ := h
    have hcl := T.cl
    have hnK := T.nK
    refine ⟨_, (pss_cons (ps_set (i := 1) sc__law_which.nd rfl (by first | exact Or.inl rfl | exact Or.inr rfl) (pe_lst (pa_cons (pe_callB (call_isP (q := q) List.mem_cons_self hC hz hf) (by rfl) T.b_isinstance (by decide +kernel) (pa_cons (pv 0) (pa_cons (C8.pe_gc (v := .ref xa.NoRow) (by rfl) ⟨_, T.g_NoRow, rfl⟩) pa_nil))) (pa_cons (pe_callB (call_isP (q := q) List.mem_cons_self hC hz hf) (by rfl) T.b_isinstance (by decide +kernel) (pa_cons (pv 0) (pa_cons (C8.pe_gc (v := .ref xa.NoPlace) (by rfl) ⟨_, T.g_NoPlace, rfl⟩) pa_nil))) (pa_cons (pe_callB (call_isP (q := q) List.mem_cons_self hC hz hf) (by rfl) T.b_isinstance (by decide +kernel) (pa_cons (pv 0) (pa_cons (C8.pe_gc (v := .ref xa.NoStretch) (by rfl) ⟨_, T.g_NoStretch, rfl⟩) pa_nil))) (pa_cons (pe_callB (call_isP (q := q) List.mem_cons_self hC hz hf) (by rfl) T.b_isinstance (by decide +kernel) (pa_cons (pv 0) (pa_cons (C8.pe_gc (v := .ref xa.NoTree) (by rfl) ⟨_, T.g_NoTree, rfl⟩) pa_nil))) pa_nil))))))
      (pss_one (ps_ret (pe_op op_cat (pv 1) (pe_lst (pa_cons (pe_callB (call_isP (q := q) List.mem_cons_self hC hz hf) (by rfl) T.b_isinstance (by decide +kernel) (pa_cons (pv 0) (pa_cons (C8.pe_gc (v := .ref xa.NoOrder) (by rfl) ⟨_, T.g_NoOrder, rfl⟩) pa_nil))) (pa_cons (pe_callB (call_isP (q := q) List.mem_cons_self hC hz hf) (by rfl) T.b_isinstance (by decide +kernel) (pa_cons (pv 0) (pa_cons (C8.pe_gc (v := .ref xa.NoNumber) (by rfl) ⟨_, T.g_NoNumber, rfl⟩) pa_nil))) (pa_cons (pe_callB (call_isP (q := q) List.mem_cons_self hC hz hf) (by rfl) T.b_isinstance (by decide +kernel) (pa_cons (pv 0) (pa_cons (C8.pe_gc (v := .ref xa.NoSky) (by rfl) ⟨_, T.g_NoSky, rfl⟩) pa_nil))) (pa_cons (pe_callB (call_isP (q := q) List.mem_cons_self hC hz hf) (by rfl) T.b_isinstance (by decide +kernel) (pa_cons (pv 0) (pa_cons (pe_bltn (v := .ty "ValueError") (by rfl) T.b_ValueError (by decide +kernel) rfl) pa_nil))) pa_nil))))))))), ?_⟩
    walk_at "gx"
    refine r_isE (fun _ r => r) k0 ?_
    walk_at "gx"
    refine r_isE (fun _ r => r) k1 ?_
    walk_at "gx"
    refine r_isE (fun _ r => r) k2 ?_
    walk_at "gx"
    refine r_isE (fun _ r => r) k3 ?_
    walk_at "gx"
    intro l1 H1 n1 s1 h1
    walk_at "gx"
    refine r_isE (fun _ r => r) k4 ?_
    walk_at "gx"
    refine r_isE (fun _ r => r) k5 ?_
    walk_at "gx"
    refine r_isE (fun _ r => r) k6 ?_
    walk_at "gx"
    refine r_isE (fun _ r => r) k7 ?_
    walk_at "gx"
    intro l2 H2 n2 s2 h2
    walk_at "gx"
    refine r_catN (s2 _ _ h1) h2 (Nat.le_of_ble_eq_true rfl) fun l3 H3 n3 s3 h3 => ?_
    exact y l3 H3 ((s1.trans s2).trans s3) h3
theorem bits_range : ∀ w : Nat, w < 7 → ((List.range 8).map fun (j : Nat) => decide ((j : Int) = (w : Int)) || decide ((j : Int) = 7)) = bitsOf w := by decide +kernel
def sp_law (K : PySem.W.Frag) (_ : Addr) : Sp := fun vs H Q _ => ∃ (a : Addr) (ns : List Int), vs = [.ref a] ∧ SqL K H a (ns.map V.int) ∧ ns.length ≤ 63 ∧ ∀ H', Q (.bl true) H'
theorem law_in {K : PySem.W.Frag} {H : Hp} {a : Addr} {ns : List Int} {E : XK} (hS : SqL K H a (ns.map V.int)) (hl : ns.length ≤ 63) : sp_law K 0 [.ref a] H (fun v _ => v = .bl true) E := ⟨a, ns, rfl, hS, hl, fun _ => rfl⟩
theorem ok_law {f : Addr} {fd : FuncData} (F : Fun K "law" "law" s_law f fd) (T : Txt K mg C xa) (c_Row_numbers : C8.Met P w K mg base 1 C "numbers" (sp_Row_numbers K C) []) (c_X__law_done : CalX P w K mg base 49 "_law_done" (sp_X__law_done K C xa)) (c__law_cell_at : C8.Cal P w K mg base 1 "_law_cell_at" (sp__law_cell_at K C) []) (c_P__law_which : CalP P w K mg base 1 "_law_which" (sp_P__law_which K C xa)) (c_Row : C8.Mak P w K mg base 1 "Row" C (sp_Row___init__ K C) []) : FnOk P w K mg base CX0 50 f fd ["script"] (sp_law K C) := by
  refine F.ok sc_law (fun vs H Q E h => ?_) (fun cdv A outer s H vs Q E hr h => ?_)
  · obtain ⟨a, ns, rfl, hS, hl, k⟩ := h
    rfl
  · obtain ⟨a, ns, rfl, hS, hl, k⟩ := h
    have hcl := T.cl
    have hnK := T.nK
    refine ⟨_, (pss_cons (ps_set (i := 1) sc_law.nd rfl (by first | exact Or.inl rfl | exact Or.inr rfl) (pe_op op_mod (C8.pe_c c__law_cell_at hr (by decide) rfl (pa_cons (pv 0) (pa_cons pe_int pa_nil))) pe_int))
      (pss_cons (ps_set (i := 2) sc_law.nd rfl (by first | exact Or.inl rfl | exact Or.inr rfl) (pe_op op_mod (C8.pe_c c__law_cell_at hr (by decide) rfl (pa_cons (pv 0) (pa_cons pe_int pa_nil))) (pe_op op_pow pe_int pe_int)))
      (pss_cons (ps_set (i := 3) sc_law.nd rfl (by first | exact Or.inl rfl | exact Or.inr rfl) (C8.pe_mk c_Row hr (by decide) rfl (pa_cons (pe_lst (pa_cons pe_int (pa_cons pe_int (pa_cons pe_int pa_nil)))) pa_nil)))
      (pss_cons (ps_set (i := 4) sc_law.nd rfl (by first | exact Or.inl rfl | exact Or.inr rfl) (C8.pe_mk c_Row hr (by decide) rfl (pa_cons (pe_op op_rep (pe_lst (pa_cons pe_int (pa_cons pe_int pa_nil))) pe_int) pa_nil)))
      (pss_cons (ps_set (i := 5) sc_law.nd rfl (by first | exact Or.inl rfl | exact Or.inr rfl) (pe_lst pa_nil))
      (pss_cons (ps_try_as (i := 6) (tb := fun W => tDrop (tCallS (sp_X__law_done K C xa) (WE W) (tCons (tVar 1) (tCons (tCall (sp__law_cell_at K C) [] C8.E0 (tCons (tVar 0) (tCons (tC (.int 1)) tNil))) (tCons (tVar 2) (tCons (tVar 3) (tCons (tVar 4) tNil))))))) (ts := fun a cls d => tAsg (tCall (sp_P__law_which K C xa a cls d) [] C8.E0 (tCons (tVar 6) tNil)) (gName 5)) (Wout := fun _ _ _ _ => False) rfl rfl sc_law.nd rfl rfl ⟨rfl, by decide, Or.inl T.g_RowError⟩ takes0 (fun W pn xe tk _ => (pss_one (ps_expr (pe_cX c_X__law_done hr (by decide) rfl tk (pa_cons (pv 1) (pa_cons (C8.pe_c c__law_cell_at hr (by decide) rfl (pa_cons (pv 0) (pa_cons pe_int pa_nil))) (pa_cons (pv 2) (pa_cons (pv 3) (pa_cons (pv 4) pa_nil))))))))) (fun a oe cls d pn hz hf => (pss_one (ps_set (i := 5) sc_law.nd rfl (by first | exact Or.inl rfl | exact Or.inr rfl) (pe_cP c_P__law_which hr (by decide) rfl hz hf (pa_cons (pv 6) pa_nil))))))
      (pss_cons (ps_if (PW.pt (pw_or (pt_cmpR (op_neD hr.units) (C8.pe_mt0 c_Row_numbers hr (by decide) (pv 3)) (pe_lst (pa_cons pe_int (pa_cons pe_int (pa_cons pe_int pa_nil)))) (nomark _)) (pw_or1 (pt_cmpR (op_neD hr.units) (C8.pe_mt0 c_Row_numbers hr (by decide) (pv 4)) (pe_op op_rep (pe_lst (pa_cons pe_int (pa_cons pe_int pa_nil))) pe_int) (nomark _))))) (pss_one (ps_ret pe_bl)) pss_nil)
      (pss_one (ps_ret (pe_cmpR (op_eqD hr.units) (pv 5) (pe_lc (own := [("k", 7)]) (g := gName 7) (tt := tYes) rfl sc_law.nd (pi_range1 (by rfl) T.b_range (pa_cons pe_int pa_nil)) (blkOk_by (own := [("k", 7)]) (N := ["script", "way", "far", "row", "full", "told", "e", "k"]) (sc := (defScope s_law)) (by decide +kernel)) (fun _ _ _ _ _ => pg_name (i := 7) sc_law.nd rfl (by first | exact Or.inl rfl | exact Or.inr rfl)) (fun _ _ _ _ _ => pts_nil) (fun _ _ _ _ _ => (pe_or (pe_cmpR op_eq (pv 7) (pv 1) (nomark _)) (pe_one (pe_cmpR op_eq (pv 7) pe_int (nomark _)))))) (nomark _))))))))))), ?_⟩
    have cell : ∀ (H' : Hp), Same H H' → SqL K H' a (ns.map V.int) := fun H' s => s.seq hS
    walk_at "gx"
    refine ⟨a, ns, 0, rfl, hS, by omega, ?_⟩
    walk_at "gx"
    generalize ns.getD (0 : Int).toNat 0 = c0
    have w0 := Int.emod_nonneg c0 (show (7 : Int) ≠ 0 by decide)
    have w1 := Int.emod_lt_of_pos c0 (show (0 : Int) < 7 by decide)
    obtain ⟨w, hw⟩ : ∃ w : Nat, c0 % 7 = (w : Int) := ⟨(c0 % 7).toNat, by omega⟩
    rw [hw] at w0 w1 ⊢
    have hw7 : w < 7 := by omega
    refine ⟨a, ns, 2, rfl, hS, by omega, ?_⟩
    generalize ns.getD (2 : Int).toNat 0 = c2
    walk_at "gx"
    try refine r_I (show CPow 10 59 from ⟨by decide, by decide, by decide⟩) ?_
    walk_at "gx"
    try refine r_I (show (0 : Int) < 10 ^ (59 : Int).toNat by decide) ?_
    have f0 := Int.emod_nonneg c2 (show (10 : Int) ^ (59 : Int).toNat ≠ 0 by decide)
    generalize c2 % 10 ^ (59 : Int).toNat = f at f0
    walk_at "gx"
    intro l1 H1 n1 s1 h1
    walk_at "gx"
    refine mk_row (ns := [4, 2, 4]) (VT.SqL.lst h1) (by decide) fun p l d H2 s2 np nl ne hp hL => ?_
    walk_at "gx"
    intro l3 H3 n3 s3 h3
    walk_at "gx"
    refine r_rep2 h3 (by decide) (by decide) fun l4 H4 n4 s4 h4 => ?_
    walk_at "gx"
    refine mk_row (ns := (List.replicate 20 [(1 : Int), 2]).flatten) (VT.SqL.lst h4) (by decide) fun p' l' d' H5 s5 np' nl' ne' hp' hL' => ?_
    walk_at "gx"
    intro l6 H6 n6 s6 h6
    have s26 := ((s3.trans s4).trans s5).trans s6
    have s06 := (s1.trans s2).trans s26
    have hp6 := s26 _ _ hp
    have hL6 := s26 _ _ hL
    have hp6' := s6 _ _ hp'
    have hL6' := s6 _ _ hL'
    walk_at "gx"
    refine ⟨a, ns, 1, rfl, cell _ s06, by omega, ?_⟩
    generalize ns.getD (1 : Int).toNat 0 = c1
    walk_at "gx"
    refine ⟨p, d, l, p', d', l', _, _, w, c1, f, rfl, hp6, hL6, rfl, hp6', hL6', by decide, hw7, f0, fun H7 s7 => ?_⟩
    obtain ⟨t1, t2, k0, k1, k2, k3, k4, k5, k6, k7⟩ := T.which w hw7
    refine ⟨true, exm_mk T.su_RowError T.cl_RowError T.ty_RowError t1, fun _ b nb => ?_, fun z => Bool.noConfusion z⟩
    walk_at "gx"
    refine ⟨xa.at w, _, _, _, _, _, _, _, _, rfl, rfl, rfl, t2, k0, k1, k2, k3, k4, k5, k6, k7, fun tl H8 s8 htl => ?_⟩
    have s68 := s7.trans s8
    have hp8 := s68 _ _ hp6
    have hL8 := s68 _ _ hL6
    have hp8' := s68 _ _ hp6'
    have hL8' := s68 _ _ hL6'
    walk_at "gx"
    walk_at "andor"
    walk_at "gx"
    refine ⟨p, d, l, _, rfl, hp8, hL8, fun x9 n9 => ?_⟩
    have sA := same_new n9 (.lst (([4, 2, 4] : List Int).map V.int))
    have hA := @upd_same H8 x9 (.lst (([4, 2, 4] : List Int).map V.int))
    generalize upd H8 x9 (.lst (([4, 2, 4] : List Int).map V.int)) = H9 at sA hA
    walk_at "gx"
    intro x10 H10 n10 s10 h10
    walk_at "gx"
    refine r_neL (xs := ([4, 2, 4] : List Int).map V.int) (ys := ([4, 2, 4] : List Int).map V.int) (VT.SqL.lst (s10 _ _ hA)) (VT.SqL.lst h10) (all_int _) (all_int _) ?_
    walk_at "gx"
    refine brNF rfl ?_
    have sB := sA.trans s10
    have hp10' := sB _ _ hp8'
    have hL10' := sB _ _ hL8'
    walk_at "gx"
    refine ⟨p', d', l', _, rfl, hp10', hL10', fun x11 n11 => ?_⟩
    have sC := same_new n11 (.lst ((List.replicate 20 [(1 : Int), 2]).flatten.map V.int))
    have hC := @upd_same H10 x11 (.lst ((List.replicate 20 [(1 : Int), 2]).flatten.map V.int))
    generalize upd H10 x11 (.lst ((List.replicate 20 [(1 : Int), 2]).flatten.map V.int)) = H11 at sC hC
    walk_at "gx"
    intro x12 H12 n12 s12 h12
    walk_at "gx"
    refine r_rep2 h12 (by decide) (by decide) fun x13 H13 n13 s13 h13 => ?_
    refine r_neL (xs := (List.replicate 20 [(1 : Int), 2]).flatten.map V.int) (ys := (List.replicate 20 [(1 : Int), 2]).flatten.map V.int) (VT.SqL.lst (s13 _ _ (s12 _ _ hC))) (VT.SqL.lst h13) (all_int _) (all_int _) ?_
    walk_at "gx"
    refine brNF rfl ?_
    have htl13 := s13 _ _ (s12 _ _ (sC _ _ (sB _ _ htl)))
    walk_at "gx"
    refine r_LcR0 (fun i => (List.range i).map fun (j : Nat) => V.bl (decide ((j : Int) = (w : Int)) || decide ((j : Int) = 7))) rfl (fun i hi => by rw [List.length_map, List.length_range]; omega) (fun _ => rfl) (fun i H' N Z hi s hN hZ => ?_) (fun D H14 nD s14 hD => ?_)
    · have acc : ∀ b : Bool, b = (decide ((i : Int) = (w : Int)) || decide ((i : Int) = 7)) → N (.bl b) H' := fun b hb => hN _ _ (Same.refl _) (by rw [List.range_succ, List.map_append, hb] <;> rfl)
      walk_at "gx"
      refine iteT ?_
      walk_at "gx"
      refine brD (fun e1 => ?_) (fun e1 => ?_)
      · walk_at "gx"
        exact acc _ (by rw [decide_eq_true e1, Bool.true_or])
      · walk_at "gx"
        exact acc _ (by rw [decide_eq_false e1, Bool.false_or])
    walk_at "gx"
    refine r_eqBools (bs := bitsOf w) (VT.SqL.lst (s14 _ _ htl13)) (VT.SqL.lst ?_) ?_
    · rw [hD, ← bits_range w hw7, List.map_map]
      rfl
    exact k _
end
theorem all_mk {l : PySem.W.OpenLaw} {w : World} {K : PySem.W.Frag} {h : Heap} {mg : Str → Option Value} {fa C : Addr} {zRowError zNoRow zNoPlace zNoStretch zNoTree zNoOrder zNoNumber zNoSky : Addr} {f1 f2 f3 f4 f5 f6 f7 f8 f9 f10 f11 f12 f13 f14 f15 f16 f17 f18 f19 f20 f21 f22 f23 f24 f25 f26 f27 f28 f29 f30 f31 f32 f33 f34 f35 f36 f37 f38 f39 f40 : Addr} (X : K.In h) (G : h.Ns mainGlobals mg) (hfa : mg "law" = some (.ref fa))
    (gg_RowError : PySem.W.nsIn K mainGlobals "RowError" = some (some (.ref zRowError)))
    (gg_NoRow : PySem.W.nsIn K mainGlobals "NoRow" = some (some (.ref zNoRow)))
    (gg_NoPlace : PySem.W.nsIn K mainGlobals "NoPlace" = some (some (.ref zNoPlace)))
    (gg_NoStretch : PySem.W.nsIn K mainGlobals "NoStretch" = some (some (.ref zNoStretch)))
    (gg_NoTree : PySem.W.nsIn K mainGlobals "NoTree" = some (some (.ref zNoTree)))
    (gg_NoOrder : PySem.W.nsIn K mainGlobals "NoOrder" = some (some (.ref zNoOrder)))
    (gg_NoNumber : PySem.W.nsIn K mainGlobals "NoNumber" = some (some (.ref zNoNumber)))
    (gg_NoSky : PySem.W.nsIn K mainGlobals "NoSky" = some (some (.ref zNoSky)))
    (su_RowError : PySem.W.subIn K (.ref zRowError) (.type "BaseException") = some true)
    (ty_RowError : PySem.W.typeIn K (.ref zRowError) = some (.type "type"))
    (su_NoRow : PySem.W.subIn K (.ref zNoRow) (.type "BaseException") = some true)
    (ty_NoRow : PySem.W.typeIn K (.ref zNoRow) = some (.type "type"))
    (su_NoPlace : PySem.W.subIn K (.ref zNoPlace) (.type "BaseException") = some true)
    (ty_NoPlace : PySem.W.typeIn K (.ref zNoPlace) = some (.type "type"))
    (su_NoStretch : PySem.W.subIn K (.ref zNoStretch) (.type "BaseException") = some true)
    (ty_NoStretch : PySem.W.typeIn K (.ref zNoStretch) = some (.type "type"))
    (su_NoTree : PySem.W.subIn K (.ref zNoTree) (.type "BaseException") = some true)
    (ty_NoTree : PySem.W.typeIn K (.ref zNoTree) = some (.type "type"))
    (su_NoOrder : PySem.W.subIn K (.ref zNoOrder) (.type "BaseException") = some true)
    (ty_NoOrder : PySem.W.typeIn K (.ref zNoOrder) = some (.type "type"))
    (su_NoNumber : PySem.W.subIn K (.ref zNoNumber) (.type "BaseException") = some true)
    (ty_NoNumber : PySem.W.typeIn K (.ref zNoNumber) = some (.type "type"))
    (su_NoSky : PySem.W.subIn K (.ref zNoSky) (.type "BaseException") = some true)
    (ty_NoSky : PySem.W.typeIn K (.ref zNoSky) = some (.type "type"))
    (cl_RowError : PySem.W.isClsIn K zRowError = true)
    (hn : PySem.W.specialIn K (.builtin "object.__class__") "__get__" = some (some (.builtin "getset_descriptor.__get__")))
    (ht : PySem.W.takesIn K (.builtin "object.__class__") = some true)
    (x_NoRow : PySem.W.excIn K zNoRow [.type "ValueError", .type "Exception", .type "BaseException", .type "object"] "ValueError.__new__" = true)
    (kp_NoRow : PySem.W.keepIn K (.ref zNoRow) = true)
    (sr_NoRow : PySem.W.subIn K (.ref zNoRow) (.ref zRowError) = some true)
    (hg_NoRow : PySem.W.findIn K (.ref zNoRow) "__getattribute__" = some (some (.builtin "BaseException.__getattribute__")))
    (hk_NoRow : PySem.W.findIn K (.ref zNoRow) "__getattr__" = some none)
    (hd_NoRow : PySem.W.hasDictIn K zNoRow = true)
    (ha_NoRow : PySem.W.findIn K (.ref zNoRow) "__class__" = some (some (.builtin "object.__class__")))
    (hm_NoRow : PySem.W.mroIn K zNoRow (.type "object") = some true)
    (kv_NoRow : PySem.W.kitOne K (.ref zNoRow) (.type "ValueError") = some true)
    (kt_NoRow_NoRow : PySem.W.kitOne K (.ref zNoRow) (.ref zNoRow) = some true)
    (kt_NoRow_NoPlace : PySem.W.kitOne K (.ref zNoRow) (.ref zNoPlace) = some false)
    (kt_NoRow_NoStretch : PySem.W.kitOne K (.ref zNoRow) (.ref zNoStretch) = some false)
    (kt_NoRow_NoTree : PySem.W.kitOne K (.ref zNoRow) (.ref zNoTree) = some false)
    (kt_NoRow_NoOrder : PySem.W.kitOne K (.ref zNoRow) (.ref zNoOrder) = some false)
    (kt_NoRow_NoNumber : PySem.W.kitOne K (.ref zNoRow) (.ref zNoNumber) = some false)
    (kt_NoRow_NoSky : PySem.W.kitOne K (.ref zNoRow) (.ref zNoSky) = some false)
    (x_NoPlace : PySem.W.excIn K zNoPlace [.type "ValueError", .type "Exception", .type "BaseException", .type "object"] "ValueError.__new__" = true)
    (kp_NoPlace : PySem.W.keepIn K (.ref zNoPlace) = true)
    (sr_NoPlace : PySem.W.subIn K (.ref zNoPlace) (.ref zRowError) = some true)
    (hg_NoPlace : PySem.W.findIn K (.ref zNoPlace) "__getattribute__" = some (some (.builtin "BaseException.__getattribute__")))
    (hk_NoPlace : PySem.W.findIn K (.ref zNoPlace) "__getattr__" = some none)
    (hd_NoPlace : PySem.W.hasDictIn K zNoPlace = true)
    (ha_NoPlace : PySem.W.findIn K (.ref zNoPlace) "__class__" = some (some (.builtin "object.__class__")))
    (hm_NoPlace : PySem.W.mroIn K zNoPlace (.type "object") = some true)
    (kv_NoPlace : PySem.W.kitOne K (.ref zNoPlace) (.type "ValueError") = some true)
    (kt_NoPlace_NoRow : PySem.W.kitOne K (.ref zNoPlace) (.ref zNoRow) = some false)
    (kt_NoPlace_NoPlace : PySem.W.kitOne K (.ref zNoPlace) (.ref zNoPlace) = some true)
    (kt_NoPlace_NoStretch : PySem.W.kitOne K (.ref zNoPlace) (.ref zNoStretch) = some false)
    (kt_NoPlace_NoTree : PySem.W.kitOne K (.ref zNoPlace) (.ref zNoTree) = some false)
    (kt_NoPlace_NoOrder : PySem.W.kitOne K (.ref zNoPlace) (.ref zNoOrder) = some false)
    (kt_NoPlace_NoNumber : PySem.W.kitOne K (.ref zNoPlace) (.ref zNoNumber) = some false)
    (kt_NoPlace_NoSky : PySem.W.kitOne K (.ref zNoPlace) (.ref zNoSky) = some false)
    (x_NoStretch : PySem.W.excIn K zNoStretch [.type "ValueError", .type "Exception", .type "BaseException", .type "object"] "ValueError.__new__" = true)
    (kp_NoStretch : PySem.W.keepIn K (.ref zNoStretch) = true)
    (sr_NoStretch : PySem.W.subIn K (.ref zNoStretch) (.ref zRowError) = some true)
    (hg_NoStretch : PySem.W.findIn K (.ref zNoStretch) "__getattribute__" = some (some (.builtin "BaseException.__getattribute__")))
    (hk_NoStretch : PySem.W.findIn K (.ref zNoStretch) "__getattr__" = some none)
    (hd_NoStretch : PySem.W.hasDictIn K zNoStretch = true)
    (ha_NoStretch : PySem.W.findIn K (.ref zNoStretch) "__class__" = some (some (.builtin "object.__class__")))
    (hm_NoStretch : PySem.W.mroIn K zNoStretch (.type "object") = some true)
    (kv_NoStretch : PySem.W.kitOne K (.ref zNoStretch) (.type "ValueError") = some true)
    (kt_NoStretch_NoRow : PySem.W.kitOne K (.ref zNoStretch) (.ref zNoRow) = some false)
    (kt_NoStretch_NoPlace : PySem.W.kitOne K (.ref zNoStretch) (.ref zNoPlace) = some false)
    (kt_NoStretch_NoStretch : PySem.W.kitOne K (.ref zNoStretch) (.ref zNoStretch) = some true)
    (kt_NoStretch_NoTree : PySem.W.kitOne K (.ref zNoStretch) (.ref zNoTree) = some false)
    (kt_NoStretch_NoOrder : PySem.W.kitOne K (.ref zNoStretch) (.ref zNoOrder) = some false)
    (kt_NoStretch_NoNumber : PySem.W.kitOne K (.ref zNoStretch) (.ref zNoNumber) = some false)
    (kt_NoStretch_NoSky : PySem.W.kitOne K (.ref zNoStretch) (.ref zNoSky) = some false)
    (x_NoTree : PySem.W.excIn K zNoTree [.type "ValueError", .type "Exception", .type "BaseException", .type "object"] "ValueError.__new__" = true)
    (kp_NoTree : PySem.W.keepIn K (.ref zNoTree) = true)
    (sr_NoTree : PySem.W.subIn K (.ref zNoTree) (.ref zRowError) = some true)
    (hg_NoTree : PySem.W.findIn K (.ref zNoTree) "__getattribute__" = some (some (.builtin "BaseException.__getattribute__")))
    (hk_NoTree : PySem.W.findIn K (.ref zNoTree) "__getattr__" = some none)
    (hd_NoTree : PySem.W.hasDictIn K zNoTree = true)
    (ha_NoTree : PySem.W.findIn K (.ref zNoTree) "__class__" = some (some (.builtin "object.__class__")))
    (hm_NoTree : PySem.W.mroIn K zNoTree (.type "object") = some true)
    (kv_NoTree : PySem.W.kitOne K (.ref zNoTree) (.type "ValueError") = some true)
    (kt_NoTree_NoRow : PySem.W.kitOne K (.ref zNoTree) (.ref zNoRow) = some false)
    (kt_NoTree_NoPlace : PySem.W.kitOne K (.ref zNoTree) (.ref zNoPlace) = some false)
    (kt_NoTree_NoStretch : PySem.W.kitOne K (.ref zNoTree) (.ref zNoStretch) = some false)
    (kt_NoTree_NoTree : PySem.W.kitOne K (.ref zNoTree) (.ref zNoTree) = some true)
    (kt_NoTree_NoOrder : PySem.W.kitOne K (.ref zNoTree) (.ref zNoOrder) = some false)
    (kt_NoTree_NoNumber : PySem.W.kitOne K (.ref zNoTree) (.ref zNoNumber) = some false)
    (kt_NoTree_NoSky : PySem.W.kitOne K (.ref zNoTree) (.ref zNoSky) = some false)
    (x_NoOrder : PySem.W.excIn K zNoOrder [.type "ValueError", .type "Exception", .type "BaseException", .type "object"] "ValueError.__new__" = true)
    (kp_NoOrder : PySem.W.keepIn K (.ref zNoOrder) = true)
    (sr_NoOrder : PySem.W.subIn K (.ref zNoOrder) (.ref zRowError) = some true)
    (hg_NoOrder : PySem.W.findIn K (.ref zNoOrder) "__getattribute__" = some (some (.builtin "BaseException.__getattribute__")))
    (hk_NoOrder : PySem.W.findIn K (.ref zNoOrder) "__getattr__" = some none)
    (hd_NoOrder : PySem.W.hasDictIn K zNoOrder = true)
    (ha_NoOrder : PySem.W.findIn K (.ref zNoOrder) "__class__" = some (some (.builtin "object.__class__")))
    (hm_NoOrder : PySem.W.mroIn K zNoOrder (.type "object") = some true)
    (kv_NoOrder : PySem.W.kitOne K (.ref zNoOrder) (.type "ValueError") = some true)
    (kt_NoOrder_NoRow : PySem.W.kitOne K (.ref zNoOrder) (.ref zNoRow) = some false)
    (kt_NoOrder_NoPlace : PySem.W.kitOne K (.ref zNoOrder) (.ref zNoPlace) = some false)
    (kt_NoOrder_NoStretch : PySem.W.kitOne K (.ref zNoOrder) (.ref zNoStretch) = some false)
    (kt_NoOrder_NoTree : PySem.W.kitOne K (.ref zNoOrder) (.ref zNoTree) = some false)
    (kt_NoOrder_NoOrder : PySem.W.kitOne K (.ref zNoOrder) (.ref zNoOrder) = some true)
    (kt_NoOrder_NoNumber : PySem.W.kitOne K (.ref zNoOrder) (.ref zNoNumber) = some false)
    (kt_NoOrder_NoSky : PySem.W.kitOne K (.ref zNoOrder) (.ref zNoSky) = some false)
    (x_NoNumber : PySem.W.excIn K zNoNumber [.type "ValueError", .type "Exception", .type "BaseException", .type "object"] "ValueError.__new__" = true)
    (kp_NoNumber : PySem.W.keepIn K (.ref zNoNumber) = true)
    (sr_NoNumber : PySem.W.subIn K (.ref zNoNumber) (.ref zRowError) = some true)
    (hg_NoNumber : PySem.W.findIn K (.ref zNoNumber) "__getattribute__" = some (some (.builtin "BaseException.__getattribute__")))
    (hk_NoNumber : PySem.W.findIn K (.ref zNoNumber) "__getattr__" = some none)
    (hd_NoNumber : PySem.W.hasDictIn K zNoNumber = true)
    (ha_NoNumber : PySem.W.findIn K (.ref zNoNumber) "__class__" = some (some (.builtin "object.__class__")))
    (hm_NoNumber : PySem.W.mroIn K zNoNumber (.type "object") = some true)
    (kv_NoNumber : PySem.W.kitOne K (.ref zNoNumber) (.type "ValueError") = some true)
    (kt_NoNumber_NoRow : PySem.W.kitOne K (.ref zNoNumber) (.ref zNoRow) = some false)
    (kt_NoNumber_NoPlace : PySem.W.kitOne K (.ref zNoNumber) (.ref zNoPlace) = some false)
    (kt_NoNumber_NoStretch : PySem.W.kitOne K (.ref zNoNumber) (.ref zNoStretch) = some false)
    (kt_NoNumber_NoTree : PySem.W.kitOne K (.ref zNoNumber) (.ref zNoTree) = some false)
    (kt_NoNumber_NoOrder : PySem.W.kitOne K (.ref zNoNumber) (.ref zNoOrder) = some false)
    (kt_NoNumber_NoNumber : PySem.W.kitOne K (.ref zNoNumber) (.ref zNoNumber) = some true)
    (kt_NoNumber_NoSky : PySem.W.kitOne K (.ref zNoNumber) (.ref zNoSky) = some false)
    (x_NoSky : PySem.W.excIn K zNoSky [.type "ValueError", .type "Exception", .type "BaseException", .type "object"] "ValueError.__new__" = true)
    (kp_NoSky : PySem.W.keepIn K (.ref zNoSky) = true)
    (sr_NoSky : PySem.W.subIn K (.ref zNoSky) (.ref zRowError) = some true)
    (hg_NoSky : PySem.W.findIn K (.ref zNoSky) "__getattribute__" = some (some (.builtin "BaseException.__getattribute__")))
    (hk_NoSky : PySem.W.findIn K (.ref zNoSky) "__getattr__" = some none)
    (hd_NoSky : PySem.W.hasDictIn K zNoSky = true)
    (ha_NoSky : PySem.W.findIn K (.ref zNoSky) "__class__" = some (some (.builtin "object.__class__")))
    (hm_NoSky : PySem.W.mroIn K zNoSky (.type "object") = some true)
    (kv_NoSky : PySem.W.kitOne K (.ref zNoSky) (.type "ValueError") = some true)
    (kt_NoSky_NoRow : PySem.W.kitOne K (.ref zNoSky) (.ref zNoRow) = some false)
    (kt_NoSky_NoPlace : PySem.W.kitOne K (.ref zNoSky) (.ref zNoPlace) = some false)
    (kt_NoSky_NoStretch : PySem.W.kitOne K (.ref zNoSky) (.ref zNoStretch) = some false)
    (kt_NoSky_NoTree : PySem.W.kitOne K (.ref zNoSky) (.ref zNoTree) = some false)
    (kt_NoSky_NoOrder : PySem.W.kitOne K (.ref zNoSky) (.ref zNoOrder) = some false)
    (kt_NoSky_NoNumber : PySem.W.kitOne K (.ref zNoSky) (.ref zNoNumber) = some false)
    (kt_NoSky_NoSky : PySem.W.kitOne K (.ref zNoSky) (.ref zNoSky) = some true)
    (aC : PySem.W.nsIn K mainGlobals "Row" = some (some (.ref C))) (pg : PySem.W.plainGet K C Str.empty = true) (hd : PySem.W.hasDictIn K C = true) (po : PySem.W.plainOver K C = true) (sa : PySem.W.findIn K (.ref C) "__setattr__" = some (some (.builtin "object.__setattr__"))) (mk : PySem.W.makesIn K C = true) (kc : PySem.W.keepIn K (.ref C) = true) (nK : PySem.W.findIn K (.ref C) "kept" = some none)
    {od1 an1 : Option Addr} {sl1 : Array (Option Value)} {oc1 kV1 dc1 pm1 cd1 ct1 : Value}
    (a1 : PySem.W.findIn K (.ref C) "numbers" = some (some (.ref f1))) (i1 : PySem.W.isFn K (.ref f1) = true)
    (l1 : K.lookup f1 = some ⟨oc1, od1, .func (PySem.W.fnOf "numbers" "Row.numbers" (defArgs s_Row_numbers) (defBody s_Row_numbers) (defScope s_Row_numbers) .none kV1 dc1 pm1 an1 cd1 ct1), sl1⟩) (c1 : PySem.W.codeIn K cd1 "Row.numbers" = true) (k1 : PySem.W.keepIn K (.ref f1) = true)
    {od2 an2 : Option Addr} {sl2 : Array (Option Value)} {oc2 kV2 dc2 pm2 cd2 ct2 : Value}
    (a2 : PySem.W.findIn K (.ref C) "__init__" = some (some (.ref f2))) (i2 : PySem.W.isFn K (.ref f2) = true)
    (l2 : K.lookup f2 = some ⟨oc2, od2, .func (PySem.W.fnOf "__init__" "Row.__init__" (defArgs s_Row___init__) (defBody s_Row___init__) (defScope s_Row___init__) .none kV2 dc2 pm2 an2 cd2 ct2), sl2⟩) (c2 : PySem.W.codeIn K cd2 "Row.__init__" = true) (k2 : PySem.W.keepIn K (.ref f2) = true)
    {od3 an3 : Option Addr} {sl3 : Array (Option Value)} {oc3 kV3 dc3 pm3 cd3 ct3 : Value}
    (a3 : PySem.W.findIn K (.ref C) "put_in" = some (some (.ref f3))) (i3 : PySem.W.isFn K (.ref f3) = true)
    (l3 : K.lookup f3 = some ⟨oc3, od3, .func (PySem.W.fnOf "put_in" "Row.put_in" (defArgs s_Row_put_in) (defBody s_Row_put_in) (defScope s_Row_put_in) .none kV3 dc3 pm3 an3 cd3 ct3), sl3⟩) (c3 : PySem.W.codeIn K cd3 "Row.put_in" = true) (k3 : PySem.W.keepIn K (.ref f3) = true)
    {od4 an4 : Option Addr} {sl4 : Array (Option Value)} {oc4 kV4 dc4 pm4 cd4 ct4 : Value}
    (a4 : PySem.W.nsIn K mainGlobals "joined" = some (some (.ref f4)))
    (l4 : K.lookup f4 = some ⟨oc4, od4, .func (PySem.W.fnOf "joined" "joined" (defArgs s_joined) (defBody s_joined) (defScope s_joined) .none kV4 dc4 pm4 an4 cd4 ct4), sl4⟩) (c4 : PySem.W.codeIn K cd4 "joined" = true) (k4 : PySem.W.keepIn K (.ref f4) = true)
    {od5 an5 : Option Addr} {sl5 : Array (Option Value)} {oc5 kV5 dc5 pm5 cd5 ct5 : Value}
    (a5 : PySem.W.nsIn K mainGlobals "_law_no_row" = some (some (.ref f5)))
    (l5 : K.lookup f5 = some ⟨oc5, od5, .func (PySem.W.fnOf "_law_no_row" "_law_no_row" (defArgs s__law_no_row) (defBody s__law_no_row) (defScope s__law_no_row) .none kV5 dc5 pm5 an5 cd5 ct5), sl5⟩) (c5 : PySem.W.codeIn K cd5 "_law_no_row" = true) (k5 : PySem.W.keepIn K (.ref f5) = true)
    {od6 an6 : Option Addr} {sl6 : Array (Option Value)} {oc6 kV6 dc6 pm6 cd6 ct6 : Value}
    (a6 : PySem.W.findIn K (.ref C) "ask" = some (some (.ref f6))) (i6 : PySem.W.isFn K (.ref f6) = true)
    (l6 : K.lookup f6 = some ⟨oc6, od6, .func (PySem.W.fnOf "ask" "Row.ask" (defArgs s_Row_ask) (defBody s_Row_ask) (defScope s_Row_ask) .none kV6 dc6 pm6 an6 cd6 ct6), sl6⟩) (c6 : PySem.W.codeIn K cd6 "Row.ask" = true) (k6 : PySem.W.keepIn K (.ref f6) = true)
    {od7 an7 : Option Addr} {sl7 : Array (Option Value)} {oc7 kV7 dc7 pm7 cd7 ct7 : Value}
    (a7 : PySem.W.findIn K (.ref C) "set_at" = some (some (.ref f7))) (i7 : PySem.W.isFn K (.ref f7) = true)
    (l7 : K.lookup f7 = some ⟨oc7, od7, .func (PySem.W.fnOf "set_at" "Row.set_at" (defArgs s_Row_set_at) (defBody s_Row_set_at) (defScope s_Row_set_at) .none kV7 dc7 pm7 an7 cd7 ct7), sl7⟩) (c7 : PySem.W.codeIn K cd7 "Row.set_at" = true) (k7 : PySem.W.keepIn K (.ref f7) = true)
    {od8 an8 : Option Addr} {sl8 : Array (Option Value)} {oc8 kV8 dc8 pm8 cd8 ct8 : Value}
    (a8 : PySem.W.findIn K (.ref C) "take_out" = some (some (.ref f8))) (i8 : PySem.W.isFn K (.ref f8) = true)
    (l8 : K.lookup f8 = some ⟨oc8, od8, .func (PySem.W.fnOf "take_out" "Row.take_out" (defArgs s_Row_take_out) (defBody s_Row_take_out) (defScope s_Row_take_out) .none kV8 dc8 pm8 an8 cd8 ct8), sl8⟩) (c8 : PySem.W.codeIn K cd8 "Row.take_out" = true) (k8 : PySem.W.keepIn K (.ref f8) = true)
    {od9 an9 : Option Addr} {sl9 : Array (Option Value)} {oc9 kV9 dc9 pm9 cd9 ct9 : Value}
    (a9 : PySem.W.findIn K (.ref C) "cut" = some (some (.ref f9))) (i9 : PySem.W.isFn K (.ref f9) = true)
    (l9 : K.lookup f9 = some ⟨oc9, od9, .func (PySem.W.fnOf "cut" "Row.cut" (defArgs s_Row_cut) (defBody s_Row_cut) (defScope s_Row_cut) .none kV9 dc9 pm9 an9 cd9 ct9), sl9⟩) (c9 : PySem.W.codeIn K cd9 "Row.cut" = true) (k9 : PySem.W.keepIn K (.ref f9) = true)
    {od10 an10 : Option Addr} {sl10 : Array (Option Value)} {oc10 kV10 dc10 pm10 cd10 ct10 : Value}
    (a10 : PySem.W.nsIn K mainGlobals "_law_no_place" = some (some (.ref f10)))
    (l10 : K.lookup f10 = some ⟨oc10, od10, .func (PySem.W.fnOf "_law_no_place" "_law_no_place" (defArgs s__law_no_place) (defBody s__law_no_place) (defScope s__law_no_place) .none kV10 dc10 pm10 an10 cd10 ct10), sl10⟩) (c10 : PySem.W.codeIn K cd10 "_law_no_place" = true) (k10 : PySem.W.keepIn K (.ref f10) = true)
    {od11 an11 : Option Addr} {sl11 : Array (Option Value)} {oc11 kV11 dc11 pm11 cd11 ct11 : Value}
    (a11 : PySem.W.findIn K (.ref C) "ask_stretch" = some (some (.ref f11))) (i11 : PySem.W.isFn K (.ref f11) = true)
    (l11 : K.lookup f11 = some ⟨oc11, od11, .func (PySem.W.fnOf "ask_stretch" "Row.ask_stretch" (defArgs s_Row_ask_stretch) (defBody s_Row_ask_stretch) (defScope s_Row_ask_stretch) .none kV11 dc11 pm11 an11 cd11 ct11), sl11⟩) (c11 : PySem.W.codeIn K cd11 "Row.ask_stretch" = true) (k11 : PySem.W.keepIn K (.ref f11) = true)
    {od12 an12 : Option Addr} {sl12 : Array (Option Value)} {oc12 kV12 dc12 pm12 cd12 ct12 : Value}
    (a12 : PySem.W.nsIn K mainGlobals "least" = some (some (.ref f12)))
    (l12 : K.lookup f12 = some ⟨oc12, od12, .func (PySem.W.fnOf "least" "least" (defArgs s_least) (defBody s_least) (defScope s_least) .none kV12 dc12 pm12 an12 cd12 ct12), sl12⟩) (c12 : PySem.W.codeIn K cd12 "least" = true) (k12 : PySem.W.keepIn K (.ref f12) = true)
    {od13 an13 : Option Addr} {sl13 : Array (Option Value)} {oc13 kV13 dc13 pm13 cd13 ct13 : Value}
    (a13 : PySem.W.findIn K (.ref C) "add_to" = some (some (.ref f13))) (i13 : PySem.W.isFn K (.ref f13) = true)
    (l13 : K.lookup f13 = some ⟨oc13, od13, .func (PySem.W.fnOf "add_to" "Row.add_to" (defArgs s_Row_add_to) (defBody s_Row_add_to) (defScope s_Row_add_to) .none kV13 dc13 pm13 an13 cd13 ct13), sl13⟩) (c13 : PySem.W.codeIn K cd13 "Row.add_to" = true) (k13 : PySem.W.keepIn K (.ref f13) = true)
    {od14 an14 : Option Addr} {sl14 : Array (Option Value)} {oc14 kV14 dc14 pm14 cd14 ct14 : Value}
    (a14 : PySem.W.nsIn K mainGlobals "_law_no_stretch" = some (some (.ref f14)))
    (l14 : K.lookup f14 = some ⟨oc14, od14, .func (PySem.W.fnOf "_law_no_stretch" "_law_no_stretch" (defArgs s__law_no_stretch) (defBody s__law_no_stretch) (defScope s__law_no_stretch) .none kV14 dc14 pm14 an14 cd14 ct14), sl14⟩) (c14 : PySem.W.codeIn K cd14 "_law_no_stretch" = true) (k14 : PySem.W.keepIn K (.ref f14) = true)
    {od15 an15 : Option Addr} {sl15 : Array (Option Value)} {oc15 kV15 dc15 pm15 cd15 ct15 : Value}
    (a15 : PySem.W.nsIn K mainGlobals "over" = some (some (.ref f15)))
    (l15 : K.lookup f15 = some ⟨oc15, od15, .func (PySem.W.fnOf "over" "over" (defArgs s_over) (defBody s_over) (defScope s_over) .none kV15 dc15 pm15 an15 cd15 ct15), sl15⟩) (c15 : PySem.W.codeIn K cd15 "over" = true) (k15 : PySem.W.keepIn K (.ref f15) = true)
    {od16 an16 : Option Addr} {sl16 : Array (Option Value)} {oc16 kV16 dc16 pm16 cd16 ct16 : Value}
    (a16 : PySem.W.nsIn K mainGlobals "tree_over" = some (some (.ref f16)))
    (l16 : K.lookup f16 = some ⟨oc16, od16, .func (PySem.W.fnOf "tree_over" "tree_over" (defArgs s_tree_over) (defBody s_tree_over) (defScope s_tree_over) .none kV16 dc16 pm16 an16 cd16 ct16), sl16⟩) (c16 : PySem.W.codeIn K cd16 "tree_over" = true) (k16 : PySem.W.keepIn K (.ref f16) = true)
    {od17 an17 : Option Addr} {sl17 : Array (Option Value)} {oc17 kV17 dc17 pm17 cd17 ct17 : Value}
    (a17 : PySem.W.nsIn K mainGlobals "depths" = some (some (.ref f17)))
    (l17 : K.lookup f17 = some ⟨oc17, od17, .func (PySem.W.fnOf "depths" "depths" (defArgs s_depths) (defBody s_depths) (defScope s_depths) .none kV17 dc17 pm17 an17 cd17 ct17), sl17⟩) (c17 : PySem.W.codeIn K cd17 "depths" = true) (k17 : PySem.W.keepIn K (.ref f17) = true)
    {od18 an18 : Option Addr} {sl18 : Array (Option Value)} {oc18 kV18 dc18 pm18 cd18 ct18 : Value}
    (a18 : PySem.W.nsIn K mainGlobals "is_tree" = some (some (.ref f18)))
    (l18 : K.lookup f18 = some ⟨oc18, od18, .func (PySem.W.fnOf "is_tree" "is_tree" (defArgs s_is_tree) (defBody s_is_tree) (defScope s_is_tree) .none kV18 dc18 pm18 an18 cd18 ct18), sl18⟩) (c18 : PySem.W.codeIn K cd18 "is_tree" = true) (k18 : PySem.W.keepIn K (.ref f18) = true)
    {od19 an19 : Option Addr} {sl19 : Array (Option Value)} {oc19 kV19 dc19 pm19 cd19 ct19 : Value}
    (a19 : PySem.W.nsIn K mainGlobals "ask_tree" = some (some (.ref f19)))
    (l19 : K.lookup f19 = some ⟨oc19, od19, .func (PySem.W.fnOf "ask_tree" "ask_tree" (defArgs s_ask_tree) (defBody s_ask_tree) (defScope s_ask_tree) .none kV19 dc19 pm19 an19 cd19 ct19), sl19⟩) (c19 : PySem.W.codeIn K cd19 "ask_tree" = true) (k19 : PySem.W.keepIn K (.ref f19) = true)
    {od20 an20 : Option Addr} {sl20 : Array (Option Value)} {oc20 kV20 dc20 pm20 cd20 ct20 : Value}
    (a20 : PySem.W.nsIn K mainGlobals "tree_number" = some (some (.ref f20)))
    (l20 : K.lookup f20 = some ⟨oc20, od20, .func (PySem.W.fnOf "tree_number" "tree_number" (defArgs s_tree_number) (defBody s_tree_number) (defScope s_tree_number) .none kV20 dc20 pm20 an20 cd20 ct20), sl20⟩) (c20 : PySem.W.codeIn K cd20 "tree_number" = true) (k20 : PySem.W.keepIn K (.ref f20) = true)
    {od21 an21 : Option Addr} {sl21 : Array (Option Value)} {oc21 kV21 dc21 pm21 cd21 ct21 : Value}
    (a21 : PySem.W.nsIn K mainGlobals "many_orders" = some (some (.ref f21)))
    (l21 : K.lookup f21 = some ⟨oc21, od21, .func (PySem.W.fnOf "many_orders" "many_orders" (defArgs s_many_orders) (defBody s_many_orders) (defScope s_many_orders) .none kV21 dc21 pm21 an21 cd21 ct21), sl21⟩) (c21 : PySem.W.codeIn K cd21 "many_orders" = true) (k21 : PySem.W.keepIn K (.ref f21) = true)
    {od22 an22 : Option Addr} {sl22 : Array (Option Value)} {oc22 kV22 dc22 pm22 cd22 ct22 : Value}
    (a22 : PySem.W.nsIn K mainGlobals "order_at" = some (some (.ref f22)))
    (l22 : K.lookup f22 = some ⟨oc22, od22, .func (PySem.W.fnOf "order_at" "order_at" (defArgs s_order_at) (defBody s_order_at) (defScope s_order_at) .none kV22 dc22 pm22 an22 cd22 ct22), sl22⟩) (c22 : PySem.W.codeIn K cd22 "order_at" = true) (k22 : PySem.W.keepIn K (.ref f22) = true)
    {od23 an23 : Option Addr} {sl23 : Array (Option Value)} {oc23 kV23 dc23 pm23 cd23 ct23 : Value}
    (a23 : PySem.W.nsIn K mainGlobals "order_number" = some (some (.ref f23)))
    (l23 : K.lookup f23 = some ⟨oc23, od23, .func (PySem.W.fnOf "order_number" "order_number" (defArgs s_order_number) (defBody s_order_number) (defScope s_order_number) .none kV23 dc23 pm23 an23 cd23 ct23), sl23⟩) (c23 : PySem.W.codeIn K cd23 "order_number" = true) (k23 : PySem.W.keepIn K (.ref f23) = true)
    {od24 an24 : Option Addr} {sl24 : Array (Option Value)} {oc24 kV24 dc24 pm24 cd24 ct24 : Value}
    (a24 : PySem.W.nsIn K mainGlobals "_law_no_tree" = some (some (.ref f24)))
    (l24 : K.lookup f24 = some ⟨oc24, od24, .func (PySem.W.fnOf "_law_no_tree" "_law_no_tree" (defArgs s__law_no_tree) (defBody s__law_no_tree) (defScope s__law_no_tree) .none kV24 dc24 pm24 an24 cd24 ct24), sl24⟩) (c24 : PySem.W.codeIn K cd24 "_law_no_tree" = true) (k24 : PySem.W.keepIn K (.ref f24) = true)
    {od25 an25 : Option Addr} {sl25 : Array (Option Value)} {oc25 kV25 dc25 pm25 cd25 ct25 : Value}
    (a25 : PySem.W.nsIn K mainGlobals "_law_no_order" = some (some (.ref f25)))
    (l25 : K.lookup f25 = some ⟨oc25, od25, .func (PySem.W.fnOf "_law_no_order" "_law_no_order" (defArgs s__law_no_order) (defBody s__law_no_order) (defScope s__law_no_order) .none kV25 dc25 pm25 an25 cd25 ct25), sl25⟩) (c25 : PySem.W.codeIn K cd25 "_law_no_order" = true) (k25 : PySem.W.keepIn K (.ref f25) = true)
    {od26 an26 : Option Addr} {sl26 : Array (Option Value)} {oc26 kV26 dc26 pm26 cd26 ct26 : Value}
    (a26 : PySem.W.nsIn K mainGlobals "many_trees" = some (some (.ref f26)))
    (l26 : K.lookup f26 = some ⟨oc26, od26, .func (PySem.W.fnOf "many_trees" "many_trees" (defArgs s_many_trees) (defBody s_many_trees) (defScope s_many_trees) .none kV26 dc26 pm26 an26 cd26 ct26), sl26⟩) (c26 : PySem.W.codeIn K cd26 "many_trees" = true) (k26 : PySem.W.keepIn K (.ref f26) = true)
    {od27 an27 : Option Addr} {sl27 : Array (Option Value)} {oc27 kV27 dc27 pm27 cd27 ct27 : Value}
    (a27 : PySem.W.nsIn K mainGlobals "tree_at" = some (some (.ref f27)))
    (l27 : K.lookup f27 = some ⟨oc27, od27, .func (PySem.W.fnOf "tree_at" "tree_at" (defArgs s_tree_at) (defBody s_tree_at) (defScope s_tree_at) .none kV27 dc27 pm27 an27 cd27 ct27), sl27⟩) (c27 : PySem.W.codeIn K cd27 "tree_at" = true) (k27 : PySem.W.keepIn K (.ref f27) = true)
    {od28 an28 : Option Addr} {sl28 : Array (Option Value)} {oc28 kV28 dc28 pm28 cd28 ct28 : Value}
    (a28 : PySem.W.nsIn K mainGlobals "shapes" = some (some (.ref f28)))
    (l28 : K.lookup f28 = some ⟨oc28, od28, .func (PySem.W.fnOf "shapes" "shapes" (defArgs s_shapes) (defBody s_shapes) (defScope s_shapes) .none kV28 dc28 pm28 an28 cd28 ct28), sl28⟩) (c28 : PySem.W.codeIn K cd28 "shapes" = true) (k28 : PySem.W.keepIn K (.ref f28) = true)
    {od29 an29 : Option Addr} {sl29 : Array (Option Value)} {oc29 kV29 dc29 pm29 cd29 ct29 : Value}
    (a29 : PySem.W.nsIn K mainGlobals "picks" = some (some (.ref f29)))
    (l29 : K.lookup f29 = some ⟨oc29, od29, .func (PySem.W.fnOf "picks" "picks" (defArgs s_picks) (defBody s_picks) (defScope s_picks) .none kV29 dc29 pm29 an29 cd29 ct29), sl29⟩) (c29 : PySem.W.codeIn K cd29 "picks" = true) (k29 : PySem.W.keepIn K (.ref f29) = true)
    {od30 an30 : Option Addr} {sl30 : Array (Option Value)} {oc30 kV30 dc30 pm30 cd30 ct30 : Value}
    (a30 : PySem.W.nsIn K mainGlobals "head_of" = some (some (.ref f30)))
    (l30 : K.lookup f30 = some ⟨oc30, od30, .func (PySem.W.fnOf "head_of" "head_of" (defArgs s_head_of) (defBody s_head_of) (defScope s_head_of) .none kV30 dc30 pm30 an30 cd30 ct30), sl30⟩) (c30 : PySem.W.codeIn K cd30 "head_of" = true) (k30 : PySem.W.keepIn K (.ref f30) = true)
    {od31 an31 : Option Addr} {sl31 : Array (Option Value)} {oc31 kV31 dc31 pm31 cd31 ct31 : Value}
    (a31 : PySem.W.nsIn K mainGlobals "count" = some (some (.ref f31)))
    (l31 : K.lookup f31 = some ⟨oc31, od31, .func (PySem.W.fnOf "count" "count" (defArgs s_count) (defBody s_count) (defScope s_count) .none kV31 dc31 pm31 an31 cd31 ct31), sl31⟩) (c31 : PySem.W.codeIn K cd31 "count" = true) (k31 : PySem.W.keepIn K (.ref f31) = true)
    {od32 an32 : Option Addr} {sl32 : Array (Option Value)} {oc32 kV32 dc32 pm32 cd32 ct32 : Value}
    (a32 : PySem.W.nsIn K mainGlobals "_law_no_number" = some (some (.ref f32)))
    (l32 : K.lookup f32 = some ⟨oc32, od32, .func (PySem.W.fnOf "_law_no_number" "_law_no_number" (defArgs s__law_no_number) (defBody s__law_no_number) (defScope s__law_no_number) .none kV32 dc32 pm32 an32 cd32 ct32), sl32⟩) (c32 : PySem.W.codeIn K cd32 "_law_no_number" = true) (k32 : PySem.W.keepIn K (.ref f32) = true)
    {od33 an33 : Option Addr} {sl33 : Array (Option Value)} {oc33 kV33 dc33 pm33 cd33 ct33 : Value}
    (a33 : PySem.W.nsIn K mainGlobals "ask_sky" = some (some (.ref f33)))
    (l33 : K.lookup f33 = some ⟨oc33, od33, .func (PySem.W.fnOf "ask_sky" "ask_sky" (defArgs s_ask_sky) (defBody s_ask_sky) (defScope s_ask_sky) .none kV33 dc33 pm33 an33 cd33 ct33), sl33⟩) (c33 : PySem.W.codeIn K cd33 "ask_sky" = true) (k33 : PySem.W.keepIn K (.ref f33) = true)
    {od34 an34 : Option Addr} {sl34 : Array (Option Value)} {oc34 kV34 dc34 pm34 cd34 ct34 : Value}
    (a34 : PySem.W.nsIn K mainGlobals "widest" = some (some (.ref f34)))
    (l34 : K.lookup f34 = some ⟨oc34, od34, .func (PySem.W.fnOf "widest" "widest" (defArgs s_widest) (defBody s_widest) (defScope s_widest) .none kV34 dc34 pm34 an34 cd34 ct34), sl34⟩) (c34 : PySem.W.codeIn K cd34 "widest" = true) (k34 : PySem.W.keepIn K (.ref f34) = true)
    {od35 an35 : Option Addr} {sl35 : Array (Option Value)} {oc35 kV35 dc35 pm35 cd35 ct35 : Value}
    (a35 : PySem.W.nsIn K mainGlobals "water" = some (some (.ref f35)))
    (l35 : K.lookup f35 = some ⟨oc35, od35, .func (PySem.W.fnOf "water" "water" (defArgs s_water) (defBody s_water) (defScope s_water) .none kV35 dc35 pm35 an35 cd35 ct35), sl35⟩) (c35 : PySem.W.codeIn K cd35 "water" = true) (k35 : PySem.W.keepIn K (.ref f35) = true)
    {od36 an36 : Option Addr} {sl36 : Array (Option Value)} {oc36 kV36 dc36 pm36 cd36 ct36 : Value}
    (a36 : PySem.W.nsIn K mainGlobals "_law_no_sky" = some (some (.ref f36)))
    (l36 : K.lookup f36 = some ⟨oc36, od36, .func (PySem.W.fnOf "_law_no_sky" "_law_no_sky" (defArgs s__law_no_sky) (defBody s__law_no_sky) (defScope s__law_no_sky) .none kV36 dc36 pm36 an36 cd36 ct36), sl36⟩) (c36 : PySem.W.codeIn K cd36 "_law_no_sky" = true) (k36 : PySem.W.keepIn K (.ref f36) = true)
    {od37 an37 : Option Addr} {sl37 : Array (Option Value)} {oc37 kV37 dc37 pm37 cd37 ct37 : Value}
    (a37 : PySem.W.nsIn K mainGlobals "_law_done" = some (some (.ref f37)))
    (l37 : K.lookup f37 = some ⟨oc37, od37, .func (PySem.W.fnOf "_law_done" "_law_done" (defArgs s__law_done) (defBody s__law_done) (defScope s__law_done) .none kV37 dc37 pm37 an37 cd37 ct37), sl37⟩) (c37 : PySem.W.codeIn K cd37 "_law_done" = true) (k37 : PySem.W.keepIn K (.ref f37) = true)
    {od38 an38 : Option Addr} {sl38 : Array (Option Value)} {oc38 kV38 dc38 pm38 cd38 ct38 : Value}
    (a38 : PySem.W.nsIn K mainGlobals "_law_cell_at" = some (some (.ref f38)))
    (l38 : K.lookup f38 = some ⟨oc38, od38, .func (PySem.W.fnOf "_law_cell_at" "_law_cell_at" (defArgs s__law_cell_at) (defBody s__law_cell_at) (defScope s__law_cell_at) .none kV38 dc38 pm38 an38 cd38 ct38), sl38⟩) (c38 : PySem.W.codeIn K cd38 "_law_cell_at" = true) (k38 : PySem.W.keepIn K (.ref f38) = true)
    {od39 an39 : Option Addr} {sl39 : Array (Option Value)} {oc39 kV39 dc39 pm39 cd39 ct39 : Value}
    (a39 : PySem.W.nsIn K mainGlobals "_law_which" = some (some (.ref f39)))
    (l39 : K.lookup f39 = some ⟨oc39, od39, .func (PySem.W.fnOf "_law_which" "_law_which" (defArgs s__law_which) (defBody s__law_which) (defScope s__law_which) .none kV39 dc39 pm39 an39 cd39 ct39), sl39⟩) (c39 : PySem.W.codeIn K cd39 "_law_which" = true) (k39 : PySem.W.keepIn K (.ref f39) = true)
    {od40 an40 : Option Addr} {sl40 : Array (Option Value)} {oc40 kV40 dc40 pm40 cd40 ct40 : Value}
    (a40 : PySem.W.nsIn K mainGlobals "law" = some (some (.ref f40)))
    (l40 : K.lookup f40 = some ⟨oc40, od40, .func (PySem.W.fnOf "law" "law" (defArgs s_law) (defBody s_law) (defScope s_law) .none kV40 dc40 pm40 an40 cd40 ct40), sl40⟩) (c40 : PySem.W.codeIn K cd40 "law" = true) (k40 : PySem.W.keepIn K (.ref f40) = true)
    (z_ValueError : PySem.W.nsIn K mainGlobals "ValueError" = some none)
    (z_isinstance : PySem.W.nsIn K mainGlobals "isinstance" = some none)
    (z_len : PySem.W.nsIn K mainGlobals "len" = some none)
    (z_list : PySem.W.nsIn K mainGlobals "list" = some none)
    (z_min : PySem.W.nsIn K mainGlobals "min" = some none)
    (z_range : PySem.W.nsIn K mainGlobals "range" = some none)
    (z_sorted : PySem.W.nsIn K mainGlobals "sorted" = some none)
    (z_sum : PySem.W.nsIn K mainGlobals "sum" = some none)
    {tk_MOST : Tok} (g_MOST : PySem.W.nsIn K mainGlobals "MOST" = some (some (.int 40 tk_MOST)))
    : ∃ fd : FuncData, (∀ (s : Shared) (v : Value), BindsTo s fd ⟨[v], []⟩ [("script", v)]) ∧ ∀ base : Heap, K.In base → base.Ns mainGlobals mg → FnOk l.prog w K mg base CX0 50 fa fd ["script"] (sp_law K 0) := by
  have e := hfa.symm.trans (PySem.W.mg_of X G a40)
  cases e
  have T : Txt K mg C ⟨zRowError, zNoRow, zNoPlace, zNoStretch, zNoTree, zNoOrder, zNoNumber, zNoSky⟩ := { cl := ⟨pg, hd, po, sa⟩, nK := nK, mgC := PySem.W.mg_of X G aC, g_RowError := PySem.W.mg_of X G gg_RowError, g_NoRow := PySem.W.mg_of X G gg_NoRow, g_NoPlace := PySem.W.mg_of X G gg_NoPlace, g_NoStretch := PySem.W.mg_of X G gg_NoStretch, g_NoTree := PySem.W.mg_of X G gg_NoTree, g_NoOrder := PySem.W.mg_of X G gg_NoOrder, g_NoNumber := PySem.W.mg_of X G gg_NoNumber, g_NoSky := PySem.W.mg_of X G gg_NoSky, su_RowError := su_RowError, ty_RowError := ty_RowError, su_NoRow := su_NoRow, ty_NoRow := ty_NoRow, su_NoPlace := su_NoPlace, ty_NoPlace := ty_NoPlace, su_NoStretch := su_NoStretch, ty_NoStretch := ty_NoStretch, su_NoTree := su_NoTree, ty_NoTree := ty_NoTree, su_NoOrder := su_NoOrder, ty_NoOrder := ty_NoOrder, su_NoNumber := su_NoNumber, ty_NoNumber := ty_NoNumber, su_NoSky := su_NoSky, ty_NoSky := ty_NoSky, cl_RowError := cl_RowError, hn := hn, ht := ht, x_NoRow := x_NoRow, kp_NoRow := kp_NoRow, sr_NoRow := sr_NoRow, hg_NoRow := hg_NoRow, hk_NoRow := hk_NoRow, hd_NoRow := hd_NoRow, ha_NoRow := ha_NoRow, hm_NoRow := hm_NoRow, kv_NoRow := kv_NoRow, kt_NoRow_NoRow := kt_NoRow_NoRow, kt_NoRow_NoPlace := kt_NoRow_NoPlace, kt_NoRow_NoStretch := kt_NoRow_NoStretch, kt_NoRow_NoTree := kt_NoRow_NoTree, kt_NoRow_NoOrder := kt_NoRow_NoOrder, kt_NoRow_NoNumber := kt_NoRow_NoNumber, kt_NoRow_NoSky := kt_NoRow_NoSky, x_NoPlace := x_NoPlace, kp_NoPlace := kp_NoPlace, sr_NoPlace := sr_NoPlace, hg_NoPlace := hg_NoPlace, hk_NoPlace := hk_NoPlace, hd_NoPlace := hd_NoPlace, ha_NoPlace := ha_NoPlace, hm_NoPlace := hm_NoPlace, kv_NoPlace := kv_NoPlace, kt_NoPlace_NoRow := kt_NoPlace_NoRow, kt_NoPlace_NoPlace := kt_NoPlace_NoPlace, kt_NoPlace_NoStretch := kt_NoPlace_NoStretch, kt_NoPlace_NoTree := kt_NoPlace_NoTree, kt_NoPlace_NoOrder := kt_NoPlace_NoOrder, kt_NoPlace_NoNumber := kt_NoPlace_NoNumber, kt_NoPlace_NoSky := kt_NoPlace_NoSky, x_NoStretch := x_NoStretch, kp_NoStretch := kp_NoStretch, sr_NoStretch := sr_NoStretch, hg_NoStretch := hg_NoStretch, hk_NoStretch := hk_NoStretch, hd_NoStretch := hd_NoStretch, ha_NoStretch := ha_NoStretch, hm_NoStretch := hm_NoStretch, kv_NoStretch := kv_NoStretch, kt_NoStretch_NoRow := kt_NoStretch_NoRow, kt_NoStretch_NoPlace := kt_NoStretch_NoPlace, kt_NoStretch_NoStretch := kt_NoStretch_NoStretch, kt_NoStretch_NoTree := kt_NoStretch_NoTree, kt_NoStretch_NoOrder := kt_NoStretch_NoOrder, kt_NoStretch_NoNumber := kt_NoStretch_NoNumber, kt_NoStretch_NoSky := kt_NoStretch_NoSky, x_NoTree := x_NoTree, kp_NoTree := kp_NoTree, sr_NoTree := sr_NoTree, hg_NoTree := hg_NoTree, hk_NoTree := hk_NoTree, hd_NoTree := hd_NoTree, ha_NoTree := ha_NoTree, hm_NoTree := hm_NoTree, kv_NoTree := kv_NoTree, kt_NoTree_NoRow := kt_NoTree_NoRow, kt_NoTree_NoPlace := kt_NoTree_NoPlace, kt_NoTree_NoStretch := kt_NoTree_NoStretch, kt_NoTree_NoTree := kt_NoTree_NoTree, kt_NoTree_NoOrder := kt_NoTree_NoOrder, kt_NoTree_NoNumber := kt_NoTree_NoNumber, kt_NoTree_NoSky := kt_NoTree_NoSky, x_NoOrder := x_NoOrder, kp_NoOrder := kp_NoOrder, sr_NoOrder := sr_NoOrder, hg_NoOrder := hg_NoOrder, hk_NoOrder := hk_NoOrder, hd_NoOrder := hd_NoOrder, ha_NoOrder := ha_NoOrder, hm_NoOrder := hm_NoOrder, kv_NoOrder := kv_NoOrder, kt_NoOrder_NoRow := kt_NoOrder_NoRow, kt_NoOrder_NoPlace := kt_NoOrder_NoPlace, kt_NoOrder_NoStretch := kt_NoOrder_NoStretch, kt_NoOrder_NoTree := kt_NoOrder_NoTree, kt_NoOrder_NoOrder := kt_NoOrder_NoOrder, kt_NoOrder_NoNumber := kt_NoOrder_NoNumber, kt_NoOrder_NoSky := kt_NoOrder_NoSky, x_NoNumber := x_NoNumber, kp_NoNumber := kp_NoNumber, sr_NoNumber := sr_NoNumber, hg_NoNumber := hg_NoNumber, hk_NoNumber := hk_NoNumber, hd_NoNumber := hd_NoNumber, ha_NoNumber := ha_NoNumber, hm_NoNumber := hm_NoNumber, kv_NoNumber := kv_NoNumber, kt_NoNumber_NoRow := kt_NoNumber_NoRow, kt_NoNumber_NoPlace := kt_NoNumber_NoPlace, kt_NoNumber_NoStretch := kt_NoNumber_NoStretch, kt_NoNumber_NoTree := kt_NoNumber_NoTree, kt_NoNumber_NoOrder := kt_NoNumber_NoOrder, kt_NoNumber_NoNumber := kt_NoNumber_NoNumber, kt_NoNumber_NoSky := kt_NoNumber_NoSky, x_NoSky := x_NoSky, kp_NoSky := kp_NoSky, sr_NoSky := sr_NoSky, hg_NoSky := hg_NoSky, hk_NoSky := hk_NoSky, hd_NoSky := hd_NoSky, ha_NoSky := ha_NoSky, hm_NoSky := hm_NoSky, kv_NoSky := kv_NoSky, kt_NoSky_NoRow := kt_NoSky_NoRow, kt_NoSky_NoPlace := kt_NoSky_NoPlace, kt_NoSky_NoStretch := kt_NoSky_NoStretch, kt_NoSky_NoTree := kt_NoSky_NoTree, kt_NoSky_NoOrder := kt_NoSky_NoOrder, kt_NoSky_NoNumber := kt_NoSky_NoNumber, kt_NoSky_NoSky := kt_NoSky_NoSky, b_ValueError := PySem.W.mg_none_of X G z_ValueError, b_isinstance := PySem.W.mg_none_of X G z_isinstance, b_len := PySem.W.mg_none_of X G z_len, b_list := PySem.W.mg_none_of X G z_list, b_min := PySem.W.mg_none_of X G z_min, b_range := PySem.W.mg_none_of X G z_range, b_sorted := PySem.W.mg_none_of X G z_sorted, b_sum := PySem.W.mg_none_of X G z_sum, g_MOST := ⟨_, PySem.W.mg_of X G g_MOST, ⟨_, rfl⟩⟩ }
  have F1 := fun_mk (st := s_Row_numbers) l1 c1 k1
  have b1 := F1.binds (ps := ["self"]) fun _ _ _ _ _ _ us hl => match us, hl with | [_], _ => rfl
  have F2 := fun_mk (st := s_Row___init__) l2 c2 k2
  have b2 := F2.binds (ps := ["self", "numbers"]) fun _ _ _ _ _ _ us hl => match us, hl with | [_, _], _ => rfl
  have F3 := fun_mk (st := s_Row_put_in) l3 c3 k3
  have b3 := F3.binds (ps := ["self", "place", "number"]) fun _ _ _ _ _ _ us hl => match us, hl with | [_, _, _], _ => rfl
  have F4 := fun_mk (st := s_joined) l4 c4 k4
  have b4 := F4.binds (ps := ["one", "other"]) fun _ _ _ _ _ _ us hl => match us, hl with | [_, _], _ => rfl
  have F5 := fun_mk (st := s__law_no_row) l5 c5 k5
  have b5 := F5.binds (ps := ["row", "full", "cell"]) fun _ _ _ _ _ _ us hl => match us, hl with | [_, _, _], _ => rfl
  have F6 := fun_mk (st := s_Row_ask) l6 c6 k6
  have b6 := F6.binds (ps := ["self", "place", "many"]) fun _ _ _ _ _ _ us hl => match us, hl with | [_, _, _], _ => rfl
  have F7 := fun_mk (st := s_Row_set_at) l7 c7 k7
  have b7 := F7.binds (ps := ["self", "place", "number"]) fun _ _ _ _ _ _ us hl => match us, hl with | [_, _, _], _ => rfl
  have F8 := fun_mk (st := s_Row_take_out) l8 c8 k8
  have b8 := F8.binds (ps := ["self", "place"]) fun _ _ _ _ _ _ us hl => match us, hl with | [_, _], _ => rfl
  have F9 := fun_mk (st := s_Row_cut) l9 c9 k9
  have b9 := F9.binds (ps := ["self", "place"]) fun _ _ _ _ _ _ us hl => match us, hl with | [_, _], _ => rfl
  have F10 := fun_mk (st := s__law_no_place) l10 c10 k10
  have b10 := F10.binds (ps := ["row", "cell", "far"]) fun _ _ _ _ _ _ us hl => match us, hl with | [_, _, _], _ => rfl
  have F11 := fun_mk (st := s_Row_ask_stretch) l11 c11 k11
  have b11 := F11.binds (ps := ["self", "first", "behind"]) fun _ _ _ _ _ _ us hl => match us, hl with | [_, _, _], _ => rfl
  have F12 := fun_mk (st := s_least) l12 c12 k12
  have b12 := F12.binds (ps := ["row", "first", "behind"]) fun _ _ _ _ _ _ us hl => match us, hl with | [_, _, _], _ => rfl
  have F13 := fun_mk (st := s_Row_add_to) l13 c13 k13
  have b13 := F13.binds (ps := ["self", "first", "behind", "number"]) fun _ _ _ _ _ _ us hl => match us, hl with | [_, _, _, _], _ => rfl
  have F14 := fun_mk (st := s__law_no_stretch) l14 c14 k14
  have b14 := F14.binds (ps := ["row", "cell", "far"]) fun _ _ _ _ _ _ us hl => match us, hl with | [_, _, _], _ => rfl
  have F15 := fun_mk (st := s_over) l15 c15 k15
  have b15 := F15.binds (ps := ["numbers", "first", "behind", "top", "found"]) fun _ _ _ _ _ _ us hl => match us, hl with | [_, _, _, _, _], _ => rfl
  have F16 := fun_mk (st := s_tree_over) l16 c16 k16
  have b16 := F16.binds (ps := ["numbers"]) fun _ _ _ _ _ _ us hl => match us, hl with | [_], _ => rfl
  have F17 := fun_mk (st := s_depths) l17 c17 k17
  have b17 := F17.binds (ps := ["some"]) fun _ _ _ _ _ _ us hl => match us, hl with | [_], _ => rfl
  have F18 := fun_mk (st := s_is_tree) l18 c18 k18
  have b18 := F18.binds (ps := ["some"]) fun _ _ _ _ _ _ us hl => match us, hl with | [_], _ => rfl
  have F19 := fun_mk (st := s_ask_tree) l19 c19 k19
  have b19 := F19.binds (ps := ["tree"]) fun _ _ _ _ _ _ us hl => match us, hl with | [_], _ => rfl
  have F20 := fun_mk (st := s_tree_number) l20 c20 k20
  have b20 := F20.binds (ps := ["tree"]) fun _ _ _ _ _ _ us hl => match us, hl with | [_], _ => rfl
  have F21 := fun_mk (st := s_many_orders) l21 c21 k21
  have b21 := F21.binds (ps := ["tree"]) fun _ _ _ _ _ _ us hl => match us, hl with | [_], _ => rfl
  have F22 := fun_mk (st := s_order_at) l22 c22 k22
  have b22 := F22.binds (ps := ["tree", "number"]) fun _ _ _ _ _ _ us hl => match us, hl with | [_, _], _ => rfl
  have F23 := fun_mk (st := s_order_number) l23 c23 k23
  have b23 := F23.binds (ps := ["tree", "order"]) fun _ _ _ _ _ _ us hl => match us, hl with | [_, _], _ => rfl
  have F24 := fun_mk (st := s__law_no_tree) l24 c24 k24
  have b24 := F24.binds (ps := ["cell", "far"]) fun _ _ _ _ _ _ us hl => match us, hl with | [_, _], _ => rfl
  have F25 := fun_mk (st := s__law_no_order) l25 c25 k25
  have b25 := F25.binds (ps := ["cell", "far"]) fun _ _ _ _ _ _ us hl => match us, hl with | [_, _], _ => rfl
  have F26 := fun_mk (st := s_many_trees) l26 c26 k26
  have b26 := F26.binds (ps := ["size"]) fun _ _ _ _ _ _ us hl => match us, hl with | [_], _ => rfl
  have F27 := fun_mk (st := s_tree_at) l27 c27 k27
  have b27 := F27.binds (ps := ["size", "number"]) fun _ _ _ _ _ _ us hl => match us, hl with | [_, _], _ => rfl
  have F28 := fun_mk (st := s_shapes) l28 c28 k28
  have b28 := F28.binds (ps := ["most"]) fun _ _ _ _ _ _ us hl => match us, hl with | [_], _ => rfl
  have F29 := fun_mk (st := s_picks) l29 c29 k29
  have b29 := F29.binds (ps := ["many", "size"]) fun _ _ _ _ _ _ us hl => match us, hl with | [_, _], _ => rfl
  have F30 := fun_mk (st := s_head_of) l30 c30 k30
  have b30 := F30.binds (ps := ["tree", "first", "behind"]) fun _ _ _ _ _ _ us hl => match us, hl with | [_, _, _], _ => rfl
  have F31 := fun_mk (st := s_count) l31 c31 k31
  have b31 := F31.binds (ps := ["tree", "first", "behind"]) fun _ _ _ _ _ _ us hl => match us, hl with | [_, _, _], _ => rfl
  have F32 := fun_mk (st := s__law_no_number) l32 c32 k32
  have b32 := F32.binds (ps := ["cell", "far"]) fun _ _ _ _ _ _ us hl => match us, hl with | [_, _], _ => rfl
  have F33 := fun_mk (st := s_ask_sky) l33 c33 k33
  have b33 := F33.binds (ps := ["numbers"]) fun _ _ _ _ _ _ us hl => match us, hl with | [_], _ => rfl
  have F34 := fun_mk (st := s_widest) l34 c34 k34
  have b34 := F34.binds (ps := ["row"]) fun _ _ _ _ _ _ us hl => match us, hl with | [_], _ => rfl
  have F35 := fun_mk (st := s_water) l35 c35 k35
  have b35 := F35.binds (ps := ["row"]) fun _ _ _ _ _ _ us hl => match us, hl with | [_], _ => rfl
  have F36 := fun_mk (st := s__law_no_sky) l36 c36 k36
  have b36 := F36.binds (ps := ["cell", "far"]) fun _ _ _ _ _ _ us hl => match us, hl with | [_, _], _ => rfl
  have F37 := fun_mk (st := s__law_done) l37 c37 k37
  have b37 := F37.binds (ps := ["way", "cell", "far", "row", "full"]) fun _ _ _ _ _ _ us hl => match us, hl with | [_, _, _, _, _], _ => rfl
  have F38 := fun_mk (st := s__law_cell_at) l38 c38 k38
  have b38 := F38.binds (ps := ["script", "k"]) fun _ _ _ _ _ _ us hl => match us, hl with | [_, _], _ => rfl
  have F39 := fun_mk (st := s__law_which) l39 c39 k39
  have b39 := F39.binds (ps := ["e"]) fun _ _ _ _ _ _ us hl => match us, hl with | [_], _ => rfl
  have F40 := fun_mk (st := s_law) l40 c40 k40
  have b40 := F40.binds (ps := ["script"]) fun _ _ _ _ _ _ us hl => match us, hl with | [_], _ => rfl
  refine ⟨PySem.W.fnOf "law" "law" (defArgs s_law) (defBody s_law) (defScope s_law) .none kV40 dc40 pm40 an40 cd40 ct40, fun s v => .of_eq rfl, fun base _ _ => ?_⟩
  have c_Row_numbers : C8.Met l.prog w K mg base 1 C "numbers" (sp_Row_numbers K C) [] := ⟨f1, _, ["self"], [], T.cl, ⟨a1, i1, k1⟩, ok_Row_numbers F1 T , b1, .nil⟩
  have c_X_Row : MakX l.prog w K mg base 1 "Row" C (sp_X_Row___init__ K C ⟨zRowError, zNoRow, zNoPlace, zNoStretch, zNoTree, zNoOrder, zNoNumber, zNoSky⟩) := ⟨f2, _, ["self", "numbers"], ⟨mk, a2, i2, kc⟩, ok_X_Row___init__ F2 T , T.mgC, b2⟩
  have c_Y_Row_put_in : MetX l.prog w K mg base 1 C "put_in" (sp_Y_Row_put_in K C ⟨zRowError, zNoRow, zNoPlace, zNoStretch, zNoTree, zNoOrder, zNoNumber, zNoSky⟩) := ⟨f3, _, ["self", "place", "number"], T.cl, ⟨a3, i3, k3⟩, ok_Y_Row_put_in F3 T , b3⟩
  have c_X_joined : CalX l.prog w K mg base 3 "joined" (sp_X_joined K C ⟨zRowError, zNoRow, zNoPlace, zNoStretch, zNoTree, zNoOrder, zNoNumber, zNoSky⟩) := ⟨f4, _, ["one", "other"], ok_X_joined F4 T c_X_Row c_Row_numbers, PySem.W.mg_of X G a4, k4, b4⟩
  have c_X__law_no_row : CalX l.prog w K mg base 4 "_law_no_row" (sp_X__law_no_row K C ⟨zRowError, zNoRow, zNoPlace, zNoStretch, zNoTree, zNoOrder, zNoNumber, zNoSky⟩) := ⟨f5, _, ["row", "full", "cell"], ok_X__law_no_row F5 T c_X_Row c_Y_Row_put_in c_X_joined, PySem.W.mg_of X G a5, k5, b5⟩
  have c_X_Row_ask : MetX l.prog w K mg base 1 C "ask" (sp_X_Row_ask K C ⟨zRowError, zNoRow, zNoPlace, zNoStretch, zNoTree, zNoOrder, zNoNumber, zNoSky⟩) := ⟨f6, _, ["self", "place", "many"], T.cl, ⟨a6, i6, k6⟩, ok_X_Row_ask F6 T , b6⟩
  have c_X_Row_set_at : MetX l.prog w K mg base 2 C "set_at" (sp_X_Row_set_at K C ⟨zRowError, zNoRow, zNoPlace, zNoStretch, zNoTree, zNoOrder, zNoNumber, zNoSky⟩) := ⟨f7, _, ["self", "place", "number"], T.cl, ⟨a7, i7, k7⟩, ok_X_Row_set_at F7 T c_X_Row_ask, b7⟩
  have c_X_Row_take_out : MetX l.prog w K mg base 2 C "take_out" (sp_X_Row_take_out K C ⟨zRowError, zNoRow, zNoPlace, zNoStretch, zNoTree, zNoOrder, zNoNumber, zNoSky⟩) := ⟨f8, _, ["self", "place"], T.cl, ⟨a8, i8, k8⟩, ok_X_Row_take_out F8 T c_X_Row_ask, b8⟩
  have c_X_Row_put_in : MetX l.prog w K mg base 2 C "put_in" (sp_X_Row_put_in K C ⟨zRowError, zNoRow, zNoPlace, zNoStretch, zNoTree, zNoOrder, zNoNumber, zNoSky⟩) := ⟨f3, _, ["self", "place", "number"], T.cl, ⟨a3, i3, k3⟩, ok_X_Row_put_in F3 T c_X_Row_ask, b3⟩
  have c_X_Row_cut : MetX l.prog w K mg base 2 C "cut" (sp_X_Row_cut K C ⟨zRowError, zNoRow, zNoPlace, zNoStretch, zNoTree, zNoOrder, zNoNumber, zNoSky⟩) := ⟨f9, _, ["self", "place"], T.cl, ⟨a9, i9, k9⟩, ok_X_Row_cut F9 T c_X_Row_ask, b9⟩
  have c_X__law_no_place : CalX l.prog w K mg base 3 "_law_no_place" (sp_X__law_no_place K C ⟨zRowError, zNoRow, zNoPlace, zNoStretch, zNoTree, zNoOrder, zNoNumber, zNoSky⟩) := ⟨f10, _, ["row", "cell", "far"], ok_X__law_no_place F10 T c_X_Row_set_at c_X_Row_take_out c_X_Row_put_in c_X_Row_cut, PySem.W.mg_of X G a10, k10, b10⟩
  have c_X_Row_ask_stretch : MetX l.prog w K mg base 1 C "ask_stretch" (sp_X_Row_ask_stretch K C ⟨zRowError, zNoRow, zNoPlace, zNoStretch, zNoTree, zNoOrder, zNoNumber, zNoSky⟩) := ⟨f11, _, ["self", "first", "behind"], T.cl, ⟨a11, i11, k11⟩, ok_X_Row_ask_stretch F11 T , b11⟩
  have c_X_least : CalX l.prog w K mg base 2 "least" (sp_X_least K C ⟨zRowError, zNoRow, zNoPlace, zNoStretch, zNoTree, zNoOrder, zNoNumber, zNoSky⟩) := ⟨f12, _, ["row", "first", "behind"], ok_X_least F12 T c_X_Row_ask_stretch, PySem.W.mg_of X G a12, k12, b12⟩
  have c_X_Row_add_to : MetX l.prog w K mg base 2 C "add_to" (sp_X_Row_add_to K C ⟨zRowError, zNoRow, zNoPlace, zNoStretch, zNoTree, zNoOrder, zNoNumber, zNoSky⟩) := ⟨f13, _, ["self", "first", "behind", "number"], T.cl, ⟨a13, i13, k13⟩, ok_X_Row_add_to F13 T c_X_Row_ask_stretch, b13⟩
  have c_X__law_no_stretch : CalX l.prog w K mg base 3 "_law_no_stretch" (sp_X__law_no_stretch K C ⟨zRowError, zNoRow, zNoPlace, zNoStretch, zNoTree, zNoOrder, zNoNumber, zNoSky⟩) := ⟨f14, _, ["row", "cell", "far"], ok_X__law_no_stretch F14 T c_X_least c_X_Row_add_to, PySem.W.mg_of X G a14, k14, b14⟩
  have c_over : ∀ n : Nat, C8.Cal l.prog w K mg base (0 + n) "over" (sp_over K C n) [] := by
    intro n
    induction n with
    | zero => exact ⟨_, _, ["numbers", "first", "behind", "top", "found"], [], fnOk_no no_over, PySem.W.mg_of X G a15, k15, b15, .nil⟩
    | succ n ih => exact ⟨_, _, ["numbers", "first", "behind", "top", "found"], [], ok_over F15 T ih, PySem.W.mg_of X G a15, k15, b15, .nil⟩
  replace c_over := c_over 42
  have c_tree_over : C8.Cal l.prog w K mg base 43 "tree_over" (sp_tree_over K C) [] := ⟨f16, _, ["numbers"], [], ok_tree_over F16 T c_over, PySem.W.mg_of X G a16, k16, b16, .nil⟩
  have c_depths : C8.Cal l.prog w K mg base 1 "depths" (sp_depths K C) [] := ⟨f17, _, ["some"], [], ok_depths F17 T , PySem.W.mg_of X G a17, k17, b17, .nil⟩
  have c_is_tree : C8.Cal l.prog w K mg base 44 "is_tree" (sp_is_tree K C) [] := ⟨f18, _, ["some"], [], ok_is_tree F18 T c_tree_over c_depths, PySem.W.mg_of X G a18, k18, b18, .nil⟩
  have c_X_ask_tree : CalX l.prog w K mg base 45 "ask_tree" (sp_X_ask_tree K C ⟨zRowError, zNoRow, zNoPlace, zNoStretch, zNoTree, zNoOrder, zNoNumber, zNoSky⟩) := ⟨f19, _, ["tree"], ok_X_ask_tree F19 T c_is_tree, PySem.W.mg_of X G a19, k19, b19⟩
  have c_X_tree_number : CalX l.prog w K mg base 46 "tree_number" (sp_X_tree_number K C ⟨zRowError, zNoRow, zNoPlace, zNoStretch, zNoTree, zNoOrder, zNoNumber, zNoSky⟩) := ⟨f20, _, ["tree"], ok_X_tree_number F20 T c_X_ask_tree, PySem.W.mg_of X G a20, k20, b20⟩
  have c_X_many_orders : CalX l.prog w K mg base 46 "many_orders" (sp_X_many_orders K C ⟨zRowError, zNoRow, zNoPlace, zNoStretch, zNoTree, zNoOrder, zNoNumber, zNoSky⟩) := ⟨f21, _, ["tree"], ok_X_many_orders F21 T c_X_ask_tree, PySem.W.mg_of X G a21, k21, b21⟩
  have c_X_order_at : CalX l.prog w K mg base 47 "order_at" (sp_X_order_at K C ⟨zRowError, zNoRow, zNoPlace, zNoStretch, zNoTree, zNoOrder, zNoNumber, zNoSky⟩) := ⟨f22, _, ["tree", "number"], ok_X_order_at F22 T c_X_many_orders, PySem.W.mg_of X G a22, k22, b22⟩
  have c_X_order_number : CalX l.prog w K mg base 46 "order_number" (sp_X_order_number K C ⟨zRowError, zNoRow, zNoPlace, zNoStretch, zNoTree, zNoOrder, zNoNumber, zNoSky⟩) := ⟨f23, _, ["tree", "order"], ok_X_order_number F23 T c_X_ask_tree, PySem.W.mg_of X G a23, k23, b23⟩
  have c_X__law_no_tree : CalX l.prog w K mg base 48 "_law_no_tree" (sp_X__law_no_tree K C ⟨zRowError, zNoRow, zNoPlace, zNoStretch, zNoTree, zNoOrder, zNoNumber, zNoSky⟩) := ⟨f24, _, ["cell", "far"], ok_X__law_no_tree F24 T c_X_tree_number c_X_many_orders c_X_order_at c_X_order_number, PySem.W.mg_of X G a24, k24, b24⟩
  have c_ask_tree : C8.Cal l.prog w K mg base 45 "ask_tree" (sp_ask_tree K C) [] := ⟨f19, _, ["tree"], [], ok_ask_tree F19 T c_is_tree, PySem.W.mg_of X G a19, k19, b19, .nil⟩
  have c_Y_order_number : CalX l.prog w K mg base 46 "order_number" (sp_Y_order_number K C ⟨zRowError, zNoRow, zNoPlace, zNoStretch, zNoTree, zNoOrder, zNoNumber, zNoSky⟩) := ⟨f23, _, ["tree", "order"], ok_Y_order_number F23 T c_tree_over c_ask_tree, PySem.W.mg_of X G a23, k23, b23⟩
  have c_X__law_no_order : CalX l.prog w K mg base 47 "_law_no_order" (sp_X__law_no_order K C ⟨zRowError, zNoRow, zNoPlace, zNoStretch, zNoTree, zNoOrder, zNoNumber, zNoSky⟩) := ⟨f25, _, ["cell", "far"], ok_X__law_no_order F25 T c_Y_order_number, PySem.W.mg_of X G a25, k25, b25⟩
  have c_X_many_trees : CalX l.prog w K mg base 1 "many_trees" (sp_X_many_trees K C ⟨zRowError, zNoRow, zNoPlace, zNoStretch, zNoTree, zNoOrder, zNoNumber, zNoSky⟩) := ⟨f26, _, ["size"], ok_X_many_trees F26 T , PySem.W.mg_of X G a26, k26, b26⟩
  have c_X_tree_at : CalX l.prog w K mg base 2 "tree_at" (sp_X_tree_at K C ⟨zRowError, zNoRow, zNoPlace, zNoStretch, zNoTree, zNoOrder, zNoNumber, zNoSky⟩) := ⟨f27, _, ["size", "number"], ok_X_tree_at F27 T c_X_many_trees, PySem.W.mg_of X G a27, k27, b27⟩
  have c_shapes : C8.Cal l.prog w K mg base 1 "shapes" (sp_shapes K C) [] := ⟨f28, _, ["most"], [], ok_shapes F28 T , PySem.W.mg_of X G a28, k28, b28, .nil⟩
  have c_many_trees : C8.Cal l.prog w K mg base 2 "many_trees" (sp_many_trees K C) [] := ⟨f26, _, ["size"], [], ok_many_trees F26 T c_shapes, PySem.W.mg_of X G a26, k26, b26, .nil⟩
  have c_Y_tree_at : CalX l.prog w K mg base 3 "tree_at" (sp_Y_tree_at K C ⟨zRowError, zNoRow, zNoPlace, zNoStretch, zNoTree, zNoOrder, zNoNumber, zNoSky⟩) := ⟨f27, _, ["size", "number"], ok_Y_tree_at F27 T c_many_trees, PySem.W.mg_of X G a27, k27, b27⟩
  have c_Z_tree_at : CalX l.prog w K mg base 3 "tree_at" (sp_Z_tree_at K C ⟨zRowError, zNoRow, zNoPlace, zNoStretch, zNoTree, zNoOrder, zNoNumber, zNoSky⟩) := ⟨f27, _, ["size", "number"], fnOk_or ((ok_X_tree_at F27 T c_X_many_trees).mono (by decide)) ((ok_Y_tree_at F27 T c_many_trees).mono (by decide)), PySem.W.mg_of X G a27, k27, b27⟩
  have c_picks : C8.Cal l.prog w K mg base 1 "picks" (sp_picks K C) [] := ⟨f29, _, ["many", "size"], [], ok_picks F29 T , PySem.W.mg_of X G a29, k29, b29, .nil⟩
  have c_head_of : C8.Cal l.prog w K mg base 1 "head_of" (sp_head_of K C) [] := ⟨f30, _, ["tree", "first", "behind"], [], ok_head_of F30 T , PySem.W.mg_of X G a30, k30, b30, .nil⟩
  have c_count : ∀ n : Nat, C8.Cal l.prog w K mg base (1 + n) "count" (sp_count K C n) [] := by
    intro n
    induction n with
    | zero => exact ⟨_, _, ["tree", "first", "behind"], [], fnOk_no no_count, PySem.W.mg_of X G a31, k31, b31, .nil⟩
    | succ n ih => exact ⟨_, _, ["tree", "first", "behind"], [], ok_count F31 T ih c_picks c_head_of, PySem.W.mg_of X G a31, k31, b31, .nil⟩
  replace c_count := c_count 42
  have c_many_orders : C8.Cal l.prog w K mg base 46 "many_orders" (sp_many_orders K C) [] := ⟨f21, _, ["tree"], [], ok_many_orders F21 T c_count c_ask_tree, PySem.W.mg_of X G a21, k21, b21, .nil⟩
  have c_Y_order_at : CalX l.prog w K mg base 47 "order_at" (sp_Y_order_at K C ⟨zRowError, zNoRow, zNoPlace, zNoStretch, zNoTree, zNoOrder, zNoNumber, zNoSky⟩) := ⟨f22, _, ["tree", "number"], ok_Y_order_at F22 T c_many_orders, PySem.W.mg_of X G a22, k22, b22⟩
  have c_X__law_no_number : CalX l.prog w K mg base 48 "_law_no_number" (sp_X__law_no_number K C ⟨zRowError, zNoRow, zNoPlace, zNoStretch, zNoTree, zNoOrder, zNoNumber, zNoSky⟩) := ⟨f32, _, ["cell", "far"], ok_X__law_no_number F32 T c_X_many_trees c_Z_tree_at c_Y_order_at, PySem.W.mg_of X G a32, k32, b32⟩
  have c_X_ask_sky : CalX l.prog w K mg base 1 "ask_sky" (sp_X_ask_sky K C ⟨zRowError, zNoRow, zNoPlace, zNoStretch, zNoTree, zNoOrder, zNoNumber, zNoSky⟩) := ⟨f33, _, ["numbers"], ok_X_ask_sky F33 T , PySem.W.mg_of X G a33, k33, b33⟩
  have c_X_widest : CalX l.prog w K mg base 2 "widest" (sp_X_widest K C ⟨zRowError, zNoRow, zNoPlace, zNoStretch, zNoTree, zNoOrder, zNoNumber, zNoSky⟩) := ⟨f34, _, ["row"], ok_X_widest F34 T c_X_ask_sky c_Row_numbers, PySem.W.mg_of X G a34, k34, b34⟩
  have c_Row : C8.Mak l.prog w K mg base 1 "Row" C (sp_Row___init__ K C) [] := ⟨f2, _, ["self", "numbers"], [], ⟨mk, a2, i2, kc⟩, ok_Row___init__ F2 T , T.mgC, b2, .nil⟩
  have c_X_water : CalX l.prog w K mg base 2 "water" (sp_X_water K C ⟨zRowError, zNoRow, zNoPlace, zNoStretch, zNoTree, zNoOrder, zNoNumber, zNoSky⟩) := ⟨f35, _, ["row"], ok_X_water F35 T c_X_ask_sky c_Row_numbers, PySem.W.mg_of X G a35, k35, b35⟩
  have c_ask_sky : C8.Cal l.prog w K mg base 1 "ask_sky" (sp_ask_sky K C) [] := ⟨f33, _, ["numbers"], [], ok_ask_sky F33 T , PySem.W.mg_of X G a33, k33, b33, .nil⟩
  have c_Y_widest : CalX l.prog w K mg base 2 "widest" (sp_Y_widest K C ⟨zRowError, zNoRow, zNoPlace, zNoStretch, zNoTree, zNoOrder, zNoNumber, zNoSky⟩) := ⟨f34, _, ["row"], ok_Y_widest F34 T c_ask_sky c_Row_numbers, PySem.W.mg_of X G a34, k34, b34⟩
  have c_X__law_no_sky : CalX l.prog w K mg base 3 "_law_no_sky" (sp_X__law_no_sky K C ⟨zRowError, zNoRow, zNoPlace, zNoStretch, zNoTree, zNoOrder, zNoNumber, zNoSky⟩) := ⟨f36, _, ["cell", "far"], ok_X__law_no_sky F36 T c_X_widest c_Row c_X_water c_Y_widest, PySem.W.mg_of X G a36, k36, b36⟩
  have c_X__law_done : CalX l.prog w K mg base 49 "_law_done" (sp_X__law_done K C ⟨zRowError, zNoRow, zNoPlace, zNoStretch, zNoTree, zNoOrder, zNoNumber, zNoSky⟩) := ⟨f37, _, ["way", "cell", "far", "row", "full"], ok_X__law_done F37 T c_X__law_no_row c_X__law_no_place c_X__law_no_stretch c_X__law_no_tree c_X__law_no_order c_X__law_no_number c_X__law_no_sky, PySem.W.mg_of X G a37, k37, b37⟩
  have c__law_cell_at : C8.Cal l.prog w K mg base 1 "_law_cell_at" (sp__law_cell_at K C) [] := ⟨f38, _, ["script", "k"], [], ok__law_cell_at F38 T , PySem.W.mg_of X G a38, k38, b38, .nil⟩
  have c_P__law_which : CalP l.prog w K mg base 1 "_law_which" (sp_P__law_which K C ⟨zRowError, zNoRow, zNoPlace, zNoStretch, zNoTree, zNoOrder, zNoNumber, zNoSky⟩) := ⟨f39, _, ["e"], ok_P__law_which F39 T , PySem.W.mg_of X G a39, k39, b39⟩
  have z := ok_law (P := l.prog) (w := w) (base := base) F40 T c_Row_numbers c_X__law_done c__law_cell_at c_P__law_which c_Row
  exact z
end VT
open PySem PySem.W PyProof.Rows
set_option maxRecDepth 100000 in
set_option maxHeartbeats 0 in
theorem PySem.Challenge.cw_valleytree_k15_each_refusal_its_own_holds : PySem.Challenge.rw_valleytree_k15_each_refusal_its_own.Holds := by
  w_on; o_law; k_head; (case hw => w_witness2)
  k_fill
  refine L2.walk_of (l := PySem.Challenge.rw_valleytree_k15_each_refusal_its_own) (n := 63) (k := 50) (x := "script") (CX := fun _ => L2.CX0) (sp := fun w => VT.sp_law _ 0) rfl (by decide) rfl ⟨rfl, by decide, by decide⟩ (fun w h Y => PySem.W.kIn_of Y) ?F (fun _ _ a ns hl _ hS => VT.law_in hS hl) (fun _ _ _ _ _ h => h)
  case F =>
    intro w mg fa h KX G hmg
    refine' VT.all_mk KX G hmg ?gg_RowError ?gg_NoRow ?gg_NoPlace ?gg_NoStretch ?gg_NoTree ?gg_NoOrder ?gg_NoNumber ?gg_NoSky ?su_RowError ?ty_RowError ?su_NoRow ?ty_NoRow ?su_NoPlace ?ty_NoPlace ?su_NoStretch ?ty_NoStretch ?su_NoTree ?ty_NoTree ?su_NoOrder ?ty_NoOrder ?su_NoNumber ?ty_NoNumber ?su_NoSky ?ty_NoSky ?cl_RowError ?hn ?ht ?x_NoRow ?kp_NoRow ?sr_NoRow ?hg_NoRow ?hk_NoRow ?hd_NoRow ?ha_NoRow ?hm_NoRow ?kv_NoRow ?kt_NoRow_NoRow ?kt_NoRow_NoPlace ?kt_NoRow_NoStretch ?kt_NoRow_NoTree ?kt_NoRow_NoOrder ?kt_NoRow_NoNumber ?kt_NoRow_NoSky ?x_NoPlace ?kp_NoPlace ?sr_NoPlace ?hg_NoPlace ?hk_NoPlace ?hd_NoPlace ?ha_NoPlace ?hm_NoPlace ?kv_NoPlace ?kt_NoPlace_NoRow ?kt_NoPlace_NoPlace ?kt_NoPlace_NoStretch ?kt_NoPlace_NoTree ?kt_NoPlace_NoOrder ?kt_NoPlace_NoNumber ?kt_NoPlace_NoSky ?x_NoStretch ?kp_NoStretch ?sr_NoStretch ?hg_NoStretch ?hk_NoStretch ?hd_NoStretch ?ha_NoStretch ?hm_NoStretch ?kv_NoStretch ?kt_NoStretch_NoRow ?kt_NoStretch_NoPlace ?kt_NoStretch_NoStretch ?kt_NoStretch_NoTree ?kt_NoStretch_NoOrder ?kt_NoStretch_NoNumber ?kt_NoStretch_NoSky ?x_NoTree ?kp_NoTree ?sr_NoTree ?hg_NoTree ?hk_NoTree ?hd_NoTree ?ha_NoTree ?hm_NoTree ?kv_NoTree ?kt_NoTree_NoRow ?kt_NoTree_NoPlace ?kt_NoTree_NoStretch ?kt_NoTree_NoTree ?kt_NoTree_NoOrder ?kt_NoTree_NoNumber ?kt_NoTree_NoSky ?x_NoOrder ?kp_NoOrder ?sr_NoOrder ?hg_NoOrder ?hk_NoOrder ?hd_NoOrder ?ha_NoOrder ?hm_NoOrder ?kv_NoOrder ?kt_NoOrder_NoRow ?kt_NoOrder_NoPlace ?kt_NoOrder_NoStretch ?kt_NoOrder_NoTree ?kt_NoOrder_NoOrder ?kt_NoOrder_NoNumber ?kt_NoOrder_NoSky ?x_NoNumber ?kp_NoNumber ?sr_NoNumber ?hg_NoNumber ?hk_NoNumber ?hd_NoNumber ?ha_NoNumber ?hm_NoNumber ?kv_NoNumber ?kt_NoNumber_NoRow ?kt_NoNumber_NoPlace ?kt_NoNumber_NoStretch ?kt_NoNumber_NoTree ?kt_NoNumber_NoOrder ?kt_NoNumber_NoNumber ?kt_NoNumber_NoSky ?x_NoSky ?kp_NoSky ?sr_NoSky ?hg_NoSky ?hk_NoSky ?hd_NoSky ?ha_NoSky ?hm_NoSky ?kv_NoSky ?kt_NoSky_NoRow ?kt_NoSky_NoPlace ?kt_NoSky_NoStretch ?kt_NoSky_NoTree ?kt_NoSky_NoOrder ?kt_NoSky_NoNumber ?kt_NoSky_NoSky ?aC ?pg ?hd ?po ?sa ?mk ?kc ?nK ?a1 ?i1 ?l1 ?c1 ?k1 ?a2 ?i2 ?l2 ?c2 ?k2 ?a3 ?i3 ?l3 ?c3 ?k3 ?a4 ?l4 ?c4 ?k4 ?a5 ?l5 ?c5 ?k5 ?a6 ?i6 ?l6 ?c6 ?k6 ?a7 ?i7 ?l7 ?c7 ?k7 ?a8 ?i8 ?l8 ?c8 ?k8 ?a9 ?i9 ?l9 ?c9 ?k9 ?a10 ?l10 ?c10 ?k10 ?a11 ?i11 ?l11 ?c11 ?k11 ?a12 ?l12 ?c12 ?k12 ?a13 ?i13 ?l13 ?c13 ?k13 ?a14 ?l14 ?c14 ?k14 ?a15 ?l15 ?c15 ?k15 ?a16 ?l16 ?c16 ?k16 ?a17 ?l17 ?c17 ?k17 ?a18 ?l18 ?c18 ?k18 ?a19 ?l19 ?c19 ?k19 ?a20 ?l20 ?c20 ?k20 ?a21 ?l21 ?c21 ?k21 ?a22 ?l22 ?c22 ?k22 ?a23 ?l23 ?c23 ?k23 ?a24 ?l24 ?c24 ?k24 ?a25 ?l25 ?c25 ?k25 ?a26 ?l26 ?c26 ?k26 ?a27 ?l27 ?c27 ?k27 ?a28 ?l28 ?c28 ?k28 ?a29 ?l29 ?c29 ?k29 ?a30 ?l30 ?c30 ?k30 ?a31 ?l31 ?c31 ?k31 ?a32 ?l32 ?c32 ?k32 ?a33 ?l33 ?c33 ?k33 ?a34 ?l34 ?c34 ?k34 ?a35 ?l35 ?c35 ?k35 ?a36 ?l36 ?c36 ?k36 ?a37 ?l37 ?c37 ?k37 ?a38 ?l38 ?c38 ?k38 ?a39 ?l39 ?c39 ?k39 ?a40 ?l40 ?c40 ?k40 ?z_ValueError ?z_isinstance ?z_len ?z_list ?z_min ?z_range ?z_sorted ?z_sum ?g_MOST
    (case gg_RowError => k_is)
    (case gg_NoRow => k_is)
    (case gg_NoPlace => k_is)
    (case gg_NoStretch => k_is)
    (case gg_NoTree => k_is)
    (case gg_NoOrder => k_is)
    (case gg_NoNumber => k_is)
    (case gg_NoSky => k_is)
    (case su_RowError => k_is)
    (case ty_RowError => k_is)
    (case su_NoRow => k_is)
    (case ty_NoRow => k_is)
    (case su_NoPlace => k_is)
    (case ty_NoPlace => k_is)
    (case su_NoStretch => k_is)
    (case ty_NoStretch => k_is)
    (case su_NoTree => k_is)
    (case ty_NoTree => k_is)
    (case su_NoOrder => k_is)
    (case ty_NoOrder => k_is)
    (case su_NoNumber => k_is)
    (case ty_NoNumber => k_is)
    (case su_NoSky => k_is)
    (case ty_NoSky => k_is)
    (case cl_RowError => k_is)
    (case hn => k_is)
    (case ht => k_is)
    (case x_NoRow => k_exc)
    (case kp_NoRow => k_is)
    (case sr_NoRow => k_is)
    (case hg_NoRow => k_is)
    (case hk_NoRow => k_is)
    (case hd_NoRow => k_is)
    (case ha_NoRow => k_is)
    (case hm_NoRow => k_is)
    (case kv_NoRow => kit_is)
    (case kt_NoRow_NoRow => kit_is)
    (case kt_NoRow_NoPlace => kit_is)
    (case kt_NoRow_NoStretch => kit_is)
    (case kt_NoRow_NoTree => kit_is)
    (case kt_NoRow_NoOrder => kit_is)
    (case kt_NoRow_NoNumber => kit_is)
    (case kt_NoRow_NoSky => kit_is)
    (case x_NoPlace => k_exc)
    (case kp_NoPlace => k_is)
    (case sr_NoPlace => k_is)
    (case hg_NoPlace => k_is)
    (case hk_NoPlace => k_is)
    (case hd_NoPlace => k_is)
    (case ha_NoPlace => k_is)
    (case hm_NoPlace => k_is)
    (case kv_NoPlace => kit_is)
    (case kt_NoPlace_NoRow => kit_is)
    (case kt_NoPlace_NoPlace => kit_is)
    (case kt_NoPlace_NoStretch => kit_is)
    (case kt_NoPlace_NoTree => kit_is)
    (case kt_NoPlace_NoOrder => kit_is)
    (case kt_NoPlace_NoNumber => kit_is)
    (case kt_NoPlace_NoSky => kit_is)
    (case x_NoStretch => k_exc)
    (case kp_NoStretch => k_is)
    (case sr_NoStretch => k_is)
    (case hg_NoStretch => k_is)
    (case hk_NoStretch => k_is)
    (case hd_NoStretch => k_is)
    (case ha_NoStretch => k_is)
    (case hm_NoStretch => k_is)
    (case kv_NoStretch => kit_is)
    (case kt_NoStretch_NoRow => kit_is)
    (case kt_NoStretch_NoPlace => kit_is)
    (case kt_NoStretch_NoStretch => kit_is)
    (case kt_NoStretch_NoTree => kit_is)
    (case kt_NoStretch_NoOrder => kit_is)
    (case kt_NoStretch_NoNumber => kit_is)
    (case kt_NoStretch_NoSky => kit_is)
    (case x_NoTree => k_exc)
    (case kp_NoTree => k_is)
    (case sr_NoTree => k_is)
    (case hg_NoTree => k_is)
    (case hk_NoTree => k_is)
    (case hd_NoTree => k_is)
    (case ha_NoTree => k_is)
    (case hm_NoTree => k_is)
    (case kv_NoTree => kit_is)
    (case kt_NoTree_NoRow => kit_is)
    (case kt_NoTree_NoPlace => kit_is)
    (case kt_NoTree_NoStretch => kit_is)
    (case kt_NoTree_NoTree => kit_is)
    (case kt_NoTree_NoOrder => kit_is)
    (case kt_NoTree_NoNumber => kit_is)
    (case kt_NoTree_NoSky => kit_is)
    (case x_NoOrder => k_exc)
    (case kp_NoOrder => k_is)
    (case sr_NoOrder => k_is)
    (case hg_NoOrder => k_is)
    (case hk_NoOrder => k_is)
    (case hd_NoOrder => k_is)
    (case ha_NoOrder => k_is)
    (case hm_NoOrder => k_is)
    (case kv_NoOrder => kit_is)
    (case kt_NoOrder_NoRow => kit_is)
    (case kt_NoOrder_NoPlace => kit_is)
    (case kt_NoOrder_NoStretch => kit_is)
    (case kt_NoOrder_NoTree => kit_is)
    (case kt_NoOrder_NoOrder => kit_is)
    (case kt_NoOrder_NoNumber => kit_is)
    (case kt_NoOrder_NoSky => kit_is)
    (case x_NoNumber => k_exc)
    (case kp_NoNumber => k_is)
    (case sr_NoNumber => k_is)
    (case hg_NoNumber => k_is)
    (case hk_NoNumber => k_is)
    (case hd_NoNumber => k_is)
    (case ha_NoNumber => k_is)
    (case hm_NoNumber => k_is)
    (case kv_NoNumber => kit_is)
    (case kt_NoNumber_NoRow => kit_is)
    (case kt_NoNumber_NoPlace => kit_is)
    (case kt_NoNumber_NoStretch => kit_is)
    (case kt_NoNumber_NoTree => kit_is)
    (case kt_NoNumber_NoOrder => kit_is)
    (case kt_NoNumber_NoNumber => kit_is)
    (case kt_NoNumber_NoSky => kit_is)
    (case x_NoSky => k_exc)
    (case kp_NoSky => k_is)
    (case sr_NoSky => k_is)
    (case hg_NoSky => k_is)
    (case hk_NoSky => k_is)
    (case hd_NoSky => k_is)
    (case ha_NoSky => k_is)
    (case hm_NoSky => k_is)
    (case kv_NoSky => kit_is)
    (case kt_NoSky_NoRow => kit_is)
    (case kt_NoSky_NoPlace => kit_is)
    (case kt_NoSky_NoStretch => kit_is)
    (case kt_NoSky_NoTree => kit_is)
    (case kt_NoSky_NoOrder => kit_is)
    (case kt_NoSky_NoNumber => kit_is)
    (case kt_NoSky_NoSky => kit_is)
    (case aC => k_is)
    (case pg => k_is)
    (case hd => k_is)
    (case po => k_is)
    (case sa => k_is)
    (case mk => k_is)
    (case kc => k_is)
    (case nK => k_is)
    (case a1 => k_is)
    (case i1 => k_is)
    (case l1 => k_is)
    (case c1 => k_is)
    (case k1 => k_is)
    (case a2 => k_is)
    (case i2 => k_is)
    (case l2 => k_is)
    (case c2 => k_is)
    (case k2 => k_is)
    (case a3 => k_is)
    (case i3 => k_is)
    (case l3 => k_is)
    (case c3 => k_is)
    (case k3 => k_is)
    (case a4 => k_is)
    (case l4 => k_is)
    (case c4 => k_is)
    (case k4 => k_is)
    (case a5 => k_is)
    (case l5 => k_is)
    (case c5 => k_is)
    (case k5 => k_is)
    (case a6 => k_is)
    (case i6 => k_is)
    (case l6 => k_is)
    (case c6 => k_is)
    (case k6 => k_is)
    (case a7 => k_is)
    (case i7 => k_is)
    (case l7 => k_is)
    (case c7 => k_is)
    (case k7 => k_is)
    (case a8 => k_is)
    (case i8 => k_is)
    (case l8 => k_is)
    (case c8 => k_is)
    (case k8 => k_is)
    (case a9 => k_is)
    (case i9 => k_is)
    (case l9 => k_is)
    (case c9 => k_is)
    (case k9 => k_is)
    (case a10 => k_is)
    (case l10 => k_is)
    (case c10 => k_is)
    (case k10 => k_is)
    (case a11 => k_is)
    (case i11 => k_is)
    (case l11 => k_is)
    (case c11 => k_is)
    (case k11 => k_is)
    (case a12 => k_is)
    (case l12 => k_is)
    (case c12 => k_is)
    (case k12 => k_is)
    (case a13 => k_is)
    (case i13 => k_is)
    (case l13 => k_is)
    (case c13 => k_is)
    (case k13 => k_is)
    (case a14 => k_is)
    (case l14 => k_is)
    (case c14 => k_is)
    (case k14 => k_is)
    (case a15 => k_is)
    (case l15 => k_is)
    (case c15 => k_is)
    (case k15 => k_is)
    (case a16 => k_is)
    (case l16 => k_is)
    (case c16 => k_is)
    (case k16 => k_is)
    (case a17 => k_is)
    (case l17 => k_is)
    (case c17 => k_is)
    (case k17 => k_is)
    (case a18 => k_is)
    (case l18 => k_is)
    (case c18 => k_is)
    (case k18 => k_is)
    (case a19 => k_is)
    (case l19 => k_is)
    (case c19 => k_is)
    (case k19 => k_is)
    (case a20 => k_is)
    (case l20 => k_is)
    (case c20 => k_is)
    (case k20 => k_is)
    (case a21 => k_is)
    (case l21 => k_is)
    (case c21 => k_is)
    (case k21 => k_is)
    (case a22 => k_is)
    (case l22 => k_is)
    (case c22 => k_is)
    (case k22 => k_is)
    (case a23 => k_is)
    (case l23 => k_is)
    (case c23 => k_is)
    (case k23 => k_is)
    (case a24 => k_is)
    (case l24 => k_is)
    (case c24 => k_is)
    (case k24 => k_is)
    (case a25 => k_is)
    (case l25 => k_is)
    (case c25 => k_is)
    (case k25 => k_is)
    (case a26 => k_is)
    (case l26 => k_is)
    (case c26 => k_is)
    (case k26 => k_is)
    (case a27 => k_is)
    (case l27 => k_is)
    (case c27 => k_is)
    (case k27 => k_is)
    (case a28 => k_is)
    (case l28 => k_is)
    (case c28 => k_is)
    (case k28 => k_is)
    (case a29 => k_is)
    (case l29 => k_is)
    (case c29 => k_is)
    (case k29 => k_is)
    (case a30 => k_is)
    (case l30 => k_is)
    (case c30 => k_is)
    (case k30 => k_is)
    (case a31 => k_is)
    (case l31 => k_is)
    (case c31 => k_is)
    (case k31 => k_is)
    (case a32 => k_is)
    (case l32 => k_is)
    (case c32 => k_is)
    (case k32 => k_is)
    (case a33 => k_is)
    (case l33 => k_is)
    (case c33 => k_is)
    (case k33 => k_is)
    (case a34 => k_is)
    (case l34 => k_is)
    (case c34 => k_is)
    (case k34 => k_is)
    (case a35 => k_is)
    (case l35 => k_is)
    (case c35 => k_is)
    (case k35 => k_is)
    (case a36 => k_is)
    (case l36 => k_is)
    (case c36 => k_is)
    (case k36 => k_is)
    (case a37 => k_is)
    (case l37 => k_is)
    (case c37 => k_is)
    (case k37 => k_is)
    (case a38 => k_is)
    (case l38 => k_is)
    (case c38 => k_is)
    (case k38 => k_is)
    (case a39 => k_is)
    (case l39 => k_is)
    (case c39 => k_is)
    (case k39 => k_is)
    (case a40 => k_is)
    (case l40 => k_is)
    (case c40 => k_is)
    (case k40 => k_is)
    (case z_ValueError => k_is)
    (case z_isinstance => k_is)
    (case z_len => k_is)
    (case z_list => k_is)
    (case z_min => k_is)
    (case z_range => k_is)
    (case z_sorted => k_is)
    (case z_sum => k_is)
    (case g_MOST => k_is)
#print axioms PySem.Challenge.cw_valleytree_k15_each_refusal_its_own_holds
