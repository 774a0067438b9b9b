import PyProof.Rows.All
import Wide.All
import OpenK.AllK
import Wide.FinOn
import HandS.ForMost
import HandS.Codes
import HandS.More
import HandS.Conv
import HandS.IsInst
import HandS.Wide
import HandS.SortInts
import HandS.RevRange
import HandS.Style
import PyProof.SeqIndex
import KE.DataMinMax
import KE.SortData
import HandS.Rev
import PySem.Challenge.RW_valleytree_k14_whole_cut_and_joined
set_option Elab.async false
set_option linter.all false
set_option maxRecDepth 100000
set_option maxHeartbeats 4000000
/-! ### a layer of small steps over the hand layer -/
namespace VT
open PySem PySem.Spec PyProof.Rows L2
theorem same_new {H : Hp} {p : Addr} (h : H p = none) (o : HO) : Same H (upd H p o) := fun b u q => by
  rw [upd_ne (ne_of_none q h)]
  exact q
theorem same_mut {H H' : Hp} {p : Addr} {o : HO} (e : Same H H') (h : H p = none) : Same H (upd H' p o) := fun b u q => by
  rw [upd_ne (ne_of_none q h)]
  exact e b u q
theorem same_new2 {H H' : Hp} {p : Addr} {o : HO} (e : Same H H') (h : H' p = none) : Same H (upd H' p o) := e.trans (same_new h o)
/-- all but what stands at l is as it was -/
def But (l : Addr) (H H' : Hp) : Prop := ∀ b o, H b = some o → b ≠ l → H' b = some o
theorem But.of {l : Addr} {H H' : Hp} (e : Same H H') : But l H H' := fun b o q _ => e b o q
theorem But.up {l : Addr} {H H' : Hp} {o : HO} (e : But l H H') : But l H (upd H' l o) := fun b u q n => by
  rw [upd_ne n]
  exact e b u q n
theorem But.trans {l : Addr} {H H1 H2 : Hp} (a : But l H H1) (b : But l H1 H2) : But l H H2 := fun c o h n => b c o (a c o h n) n
theorem But.same {l : Addr} {H H' : Hp} (e : But l H H') (h : H l = none) : Same H H' := fun b o q => e b o q (ne_of_none q h)
theorem same_but {l : Addr} {H H1 H2 : Hp} (a : Same H H1) (b : But l H1 H2) (c : H l = none) : Same H H2 := fun p o q => b p o (a p o q) (ne_of_none q c)
theorem But.get {l b : Addr} {o : HO} {H H' : Hp} (e : But l H H') (n : b ≠ l) (h : H b = some o) : H' b = some o := e b o h n
theorem Same.get {b : Addr} {o : HO} {H H' : Hp} (e : Same H H') (h : H b = some o) : H' b = some o := e b o h
theorem up_get {b p : Addr} {o u : HO} {H : Hp} (n : b ≠ p) (h : H b = some o) : upd H p u b = some o := by
  rw [upd_ne n]
  exact h
theorem ne_new {H : Hp} {a b : Addr} {o : HO} (h' : H b = none) (h : H a = some o) : a ≠ b := ne_of_none h h'
theorem ne_new' {H : Hp} {a b : Addr} {o : HO} (h' : H b = none) (h : H a = some o) : b ≠ a := (ne_of_none h h').symm
theorem up_free {H : Hp} {a b : Addr} {o : HO} (n : a ≠ b) (h : H a = none) : upd H b o a = none := by
  rw [upd_ne n]
  exact h
theorem SqL.lst {K : PySem.W.Frag} {H : Hp} {a : Addr} {xs : List V} (h : H a = some (.lst xs)) : SqL K H a xs := .inl (.inl h)
theorem SqT.tup {K : PySem.W.Frag} {H : Hp} {a : Addr} {xs : List V} (h : H a = some (.tup xs)) : SqT K H a xs := .inl (.inl h)
theorem same_seqT {K : PySem.W.Frag} {H H' : Hp} {a : Addr} {xs : List V} (e : Same H H') (h : SqT K H a xs) : SqT K H' a xs := by
  rcases h with (h | ⟨o, h⟩) | h
  · exact .inl (.inl (e _ _ h))
  · exact .inl (.inr ⟨o, e _ _ h⟩)
  · exact .inr h
/-- a readable list is not at a place that is new -/
theorem But.seq {K : PySem.W.Frag} {H H' : Hp} {a l : Addr} {xs : List V} (e : But l H H') (n : a ≠ l) (h : SqL K H a xs) : SqL K H' a xs := by
  rcases h with (h | ⟨o, h⟩) | h
  · exact .inl (.inl (e _ _ h n))
  · exact .inl (.inr ⟨o, e _ _ h n⟩)
  · exact .inr h
theorem sz {n : Nat} (h : n ≤ 1000000) : n ≤ sizeLine := Nat.le_trans h (by decide)
theorem szl {n : Nat} (h : n ≤ 1000000) : n < sizeLine := Nat.lt_of_le_of_lt h (by decide)

/-! ### names for the rules' readings -/
def rLen (K : PySem.W.Frag) : List V → Hp → VK → Prop := fun xs H Q => ∃ p ys, xs = [.ref p] ∧ (SqL K H p ys ∨ SqT K H p ys) ∧ Q (.int ys.length) H
def rListOf (K : PySem.W.Frag) : List V → Hp → VK → Prop := fun xs H Q => ∃ p ys, xs = [.ref p] ∧ (SqL K H p ys ∨ SqT K H p ys) ∧ ∀ l, H l = none → Q (.ref l) (upd H l (.lst ys))
def rMin2 : List V → Hp → VK → Prop := fun xs H Q => ∃ i j, xs = [.int i, .int j] ∧ Q (.int (if j < i then j else i)) H
def rMax2 : List V → Hp → VK → Prop := fun xs H Q => ∃ i j, xs = [.int i, .int j] ∧ Q (.int (if j > i then j else i)) H
def rAbs : List V → Hp → VK → Prop := fun xs H Q => ∃ i, xs = [.int i] ∧ Q (.int (if i < 0 then -i else i)) H
def rIsN : R2 := fun x y H Q => y = .non ∧ Q (.bl (decide (x = .non))) H
def rNotN : R2 := fun x y H Q => y = .non ∧ Q (.bl (!decide (x = .non))) H
def rIns : V → List V → Hp → VK → Prop := fun x vs H Q => ∃ (l : Addr) (xs : List V) (i : Int) (y : V), x = .ref l ∧ vs = [.int i, y] ∧ H l = some (.lst xs) ∧ xs.length < sizeLine ∧ 0 ≤ i ∧ i < 2 ^ 63 ∧ Q .non (upd H l (.lst (xs.take i.toNat ++ [y] ++ xs.drop i.toNat)))
section
variable {X : Cx}
theorem c_len : CallR X (.builtin "len") (rLen X.K) := call_len_seq
theorem c_listOf : CallR X (.type "list") (rListOf X.K) := call_list_of
theorem c_min2 (hc : X.calm = true) : CallR X (.builtin "min") rMin2 := call_min2 hc
theorem c_max2 (hc : X.calm = true) : CallR X (.builtin "max") rMax2 := call_max2 hc
theorem c_abs : CallR X (.builtin "abs") rAbs := call_abs
theorem o_isN : OpR X (compareOp .Is) rIsN := op_isN
theorem o_notN : OpR X (compareOp .IsNot) rNotN := op_notN
/-- the rules at a written part that is told (within a comprehension) -/
theorem ixL {K : PySem.W.Frag} (h : X.K = K) : IxR X (rIxL K) := by
  subst h
  exact ix_list
theorem ixT {K : PySem.W.Frag} (h : X.K = K) : IxR X (rIxT K) := by
  subst h
  exact ix_tup
theorem inS {K : PySem.W.Frag} (h : X.K = K) : OpR X (compareOp .In) (rIn K false) := by
  subst h
  exact op_in_seq
theorem eqD {K : PySem.W.Frag} (h : X.K = K) (hu : X.A.units + 64 < cLine) : OpR X (compareOp .Eq) (rEqD K) := by
  subst h
  exact op_eqD hu
theorem piL {K : PySem.W.Frag} {tg l : Expr} {tl : TE} (h : X.K = K) (hl : PE X l tl) : PI X tg l (iList K tl) := by
  subst h
  exact pi_list hl
/-- xs.index(y, i), xs a list of numbers, y there at i or behind: the first such place -/
def rIndex3 (K : PySem.W.Frag) : V → List V → Hp → VK → Prop := fun x xs H Q => ∃ (a : Addr) (ns : List Int) (y i : Int) (j : Nat), x = .ref a ∧ xs = [.int y, .int i] ∧ SqL K H a (ns.map V.int) ∧ 0 ≤ i ∧ i.toNat ≤ j ∧ ns[j]? = some y ∧ (∀ m : Nat, i.toNat ≤ m → m < j → ns[m]? ≠ some y) ∧ Q (.int (j : Nat)) H
theorem mt_index3 : MtR X "list.index" (rIndex3 X.K) := by
  intro pins s σ H x xs v us Q I rx rxs h
  obtain ⟨a, ns, y, i, j, rfl, rfl, hs, i0, hij, hj, hno, q⟩ := h
  cases rx
  obtain ⟨u1, u2, rfl, r1, r2⟩ := vals2 rxs
  obtain ⟨t1, rfl⟩ := r1
  obtain ⟨t2, rfl⟩ := r2
  obtain ⟨its, rv, ⟨⟨cls, dd, data, sl⟩, n, ho, hc, hdn, hd⟩, hlen⟩ := I.list hs
  simp only at hc hd
  subst hc hd
  have hvl := rv.length
  rw [List.length_map] at hvl
  have hjl : j < ns.length := (List.getElem?_eq_some_iff.mp hj).1
  have hsl := sizeLine_eq
  have hlen' : (ns.map V.int).length ≤ sizeLine := by
    first
      | exact hlen
      | (rw [List.length_map]; rw [hvl]; exact hlen)
  rw [List.length_map, hsl] at hlen'
  have hsf : SeqAt.searchFrom i its.toArray.size = i.toNat := SeqAt.searchFrom_nonneg i0 _
  refine call_meets PySem.F.slot_list_index ⟨_, ho, rfl⟩ PySem.F.entry_list_index (PySem.F.args_list_index_3 _ _ _)
    (SeqAt.list_index3_found a its.toArray n dd sl (.int y t1) (fun m => decide (ns[m]? = some y)) i t2 j (by rw [List.size_toArray]; omega) (by rw [hsf]; exact hij) (by omega) (decide_eq_true hj) ?_) ⟨ho, fun m hm => ?_, ?_⟩
  · intro m hm h1 h2
    rw [hsf] at h1
    exact decide_eq_false (hno m h1 h2)
  · have hml : m < its.length := by simpa using hm
    have hmn : m < ns.length := by omega
    have hm' : (ns.map V.int)[m]? = some (V.int ns[m]) := by rw [List.getElem?_map, List.getElem?_eq_getElem hmn] <;> rfl
    obtain ⟨u2, hu2, ru2⟩ := rv.get hm'
    obtain ⟨hm1, hme⟩ := List.getElem?_eq_some_iff.mp hu2
    obtain ⟨tm, rfl⟩ := ru2
    have e1 : its.toArray[m] = .int ns[m] tm := by simpa using hme
    have hq := mem_eqAt (A := X.A.in1) (s := s) (x := V.int y) (v := .int y t1) ⟨t1, rfl⟩ rfl rv (by rw [List.all_map]; exact List.all_eq_true.mpr fun _ _ => rfl) its.toArray[m] (by simp)
    have e2 : eqU (V.int y) its.toArray[m] = decide (ns[m]? = some y) := by
      rw [e1, List.getElem?_eq_getElem hmn]
      show (ns[m] == y) = _
      by_cases h : ns[m] = y
      · rw [h, beq_self_eq_true, decide_eq_true rfl]
      · rw [beq_eq_false_iff_ne.mpr h, decide_eq_false (fun z => h (Option.some.inj z))]
    rw [e2] at hq
    exact hq
  · exact ⟨.int (j : Nat), H, I.tok _, ⟨_, rfl⟩, q⟩
/-- xs.count(y), flat items -/
def rCountV (K : PySem.W.Frag) : V → List V → Hp → VK → Prop := fun x xs H Q => ∃ (a : Addr) (ys : List V) (y : V), x = .ref a ∧ xs = [y] ∧ SqL K H a ys ∧ flatV y = true ∧ ys.all flatV = true ∧ Q (.int (ys.countP (fun z => eqV z y) : Nat)) H
theorem countP_rel {y : V} : ∀ {ys : List V} {its : List Value}, Vals ys its → ys.all flatV = true → its.countP (eqU y) = ys.countP (fun z => eqV z y)
  | _, _, .nil, _ => rfl
  | x :: ys, u :: us, .cons r t, f => by
    rw [List.all_cons, Bool.and_eq_true] at f
    rw [List.countP_cons, List.countP_cons, countP_rel t f.2, eqU_of r f.1]
theorem mt_countV : MtR X "list.count" (rCountV X.K) := by
  intro pins s σ H x xs v us Q I rx rxs h
  obtain ⟨a, ys, y, rfl, rfl, hs, fy, fys, q⟩ := h
  cases rx
  obtain ⟨u, rfl, ru⟩ := rxs.one
  obtain ⟨its, rv, ⟨⟨cls, dd, data, sl⟩, n, ho, hc, hdn, hd⟩, hlen⟩ := I.list hs
  simp only at hc hd
  subst hc hd
  refine call_meets PySem.F.slot_list_count ⟨_, ho, rfl⟩ PySem.F.entry_list_count (PySem.F.args_list_count_2 _ _)
    (SeqAt.list_countAt a its.toArray n dd sl u (eqU y)) ⟨ho, fun z hz => mem_eqAt ru fy rv fys z (by simpa using hz), ?_⟩
  have ec : its.toArray.toList.countP (eqU y) = ys.countP (fun z => eqV z y) := countP_rel rv fys
  refine ⟨.int (ys.countP (fun z => eqV z y) : Nat), H, I.tok _, ⟨s.toks, ?_⟩, q⟩
  show Value.int ((its.toArray.toList.countP (eqU y) : Nat) : Int) s.toks = Value.int ((ys.countP (fun z => eqV z y) : Nat) : Int) s.toks
  rw [ec]
/-- a op1 b op2 c op3 d -/
def tChain3 (r r' r2 : R2) (ta tb tc td : TE) : TE := fun σ H Q => ta σ H fun x H1 => tb σ H1 fun y H2 => r x y H2 fun z H3 => ∃ k, z = .bl k ∧
  (if k = true then tc σ H3 fun w' H4 => r' y w' H4 fun z' H5 => ∃ k', z' = .bl k' ∧ (if k' = true then td σ H5 fun w2 H6 => r2 w' w2 H6 Q else Q (.bl false) H5) else Q (.bl false) H3)
theorem pt_chain3 {op op' op2 : CmpOp} {r r' r2 : R2} {a b c d : Expr} {ta tb tc td : TE} {pos : Pos} (ho : OpR X (compareOp op) r) (ho' : OpR X (compareOp op') r') (ho2 : OpR X (compareOp op2) r2) (ha : PE X a ta) (hb : PE X b tb) (hc : PE X c tc) (hd : PE X d td)
    (hm : lastMarks [op, op', op2] [b, c, d] = false := by with_unfolding_all rfl) : PT X (.Compare a [op, op', op2] [b, c, d] pos) (tTest (tChain3 r r' r2 ta tb tc td)) := by
  refine ⟨fun pins s σ H Q I h => ?_⟩
  refine isTrue_chain (thn (ha.run pins s σ H _ I h) fun v s1 ⟨x, H1, I1, r1, q1⟩ => test_link (thn (hb.run pins s1 σ H1 _ I1 q1) fun u s2 ⟨y, H2, I2, rr2, q2⟩ =>
    thn (ho pins s2 σ H2 x y v u _ I2 r1 rr2 q2) fun e s3 ⟨z, H3, I3, r3, k, ez, q3⟩ => ?_)) hm
  subst ez
  cases r3
  refine wpAny_truthy_bool ?_
  cases k with
  | false =>
    obtain ⟨k', e', q'⟩ := q3
    cases e'
    exact ite_ff ⟨H3, I3, q'⟩
  | true =>
    refine ite_tt (test_link (thn (hc.run pins s3 σ H3 _ I3 q3) fun w' s4 ⟨z', H4, I4, r4, q4⟩ => thn (ho' pins s4 σ H4 y z' u w' _ I4 rr2 r4 q4) fun d' s5 ⟨z2, H5, I5, r5, k2, e2, q5⟩ => ?_))
    subst e2
    cases r5
    refine wpAny_truthy_bool ?_
    cases k2 with
    | false =>
      obtain ⟨k', e', q'⟩ := q5
      cases e'
      exact ite_ff ⟨H5, I5, q'⟩
    | true =>
      refine ite_tt (test_last (thn (hd.run pins s5 σ H5 _ I5 q5) fun w2 s6 ⟨z3, H6, I6, r6, q6⟩ => thn (ho2 pins s6 σ H6 z' z3 w' w2 _ I6 r4 r6 q6) fun d2 s7 ⟨z4, H7, I7, r7, k3, e3, q7⟩ => ?_))
      subst e3
      cases r7
      exact wpAny_truthy_bool ⟨H7, I7, q7⟩
theorem m_insert : MtR X "list.insert" rIns := mt_insert
end
section
variable {σ : L2.St} {H : Hp} {Q : VK} {D : Ends} {ta tb tc te : TE} {t u : TS} {tt tu : TT} {K : PySem.W.Frag}
variable {nx bk ct : L2.St → Hp → Prop} {rt : VK}
theorem r_seq (h : t ⟨u ⟨nx, rt, bk, ct⟩, rt, bk, ct⟩ σ H) : tSeq t u ⟨nx, rt, bk, ct⟩ σ H := h
theorem r_cut (M : L2.St → Hp → Prop) (h : t ⟨M, rt, bk, ct⟩ σ H) (k : ∀ σ' H', M σ' H' → u ⟨nx, rt, bk, ct⟩ σ' H') : C8.tCut t u ⟨nx, rt, bk, ct⟩ σ H := ⟨M, h, k⟩
theorem r_next (h : nx σ H) : tNext ⟨nx, rt, bk, ct⟩ σ H := h
theorem r_asg {g : TG} (h : te σ H fun x H1 => g x σ H1 nx) : tAsg te g ⟨nx, rt, bk, ct⟩ σ H := h
theorem r_name {i : Nat} {v : V} {N : L2.St → Hp → Prop} (h : N (σ.set i (some v)) H) : gName i v σ H N := h
theorem r_sub {to ti : TE} {g : V → V → V → Hp → (Hp → Prop) → Prop} {v : V} {N : L2.St → Hp → Prop} (h : to σ H fun o H1 => ti σ H1 fun i H2 => g o i v H2 fun H3 => N σ H3) : gSub to ti g v σ H N := h
theorem r_drop (h : te σ H fun _ H1 => nx σ H1) : tDrop te ⟨nx, rt, bk, ct⟩ σ H := h
theorem r_ret (h : te σ H rt) : tRet te ⟨nx, rt, bk, ct⟩ σ H := h
theorem r_retN (h : rt .non H) : tRetN ⟨nx, rt, bk, ct⟩ σ H := h
theorem r_if {tc : TT} (h : tc σ H fun b H1 => if b = true then t ⟨nx, rt, bk, ct⟩ σ H1 else u ⟨nx, rt, bk, ct⟩ σ H1) : tIfS tc t u ⟨nx, rt, bk, ct⟩ σ H := h
theorem r_var {i : Nat} {v : V} (h : σ[i]? = some (some v)) (q : Q v H) : tVar i σ H Q := ⟨v, h, q⟩
theorem r_c {v : V} (q : Q v H) : tC v σ H Q := q
theorem r_op {r : R2} (h : ta σ H fun x H1 => tb σ H1 fun y H2 => r x y H2 Q) : tOp r ta tb σ H Q := h
theorem r_un {r : V → Hp → VK → Prop} (h : ta σ H fun x H1 => r x H1 Q) : tUn r ta σ H Q := h
theorem r_chain {r r' : R2} (h : ta σ H fun x H1 => tb σ H1 fun y H2 => r x y H2 fun z H3 => ∃ k, z = .bl k ∧ (if k = true then tc σ H3 fun w' H4 => r' y w' H4 Q else Q (.bl false) H3)) : tChain r r' ta tb tc σ H Q := h
theorem r_chain3 {r r' r2 : R2} {td : TE} (h : ta σ H fun x H1 => tb σ H1 fun y H2 => r x y H2 fun z H3 => ∃ k, z = .bl k ∧
  (if k = true then tc σ H3 fun w' H4 => r' y w' H4 fun z' H5 => ∃ k', z' = .bl k' ∧ (if k' = true then td σ H5 fun w2 H6 => r2 w' w2 H6 Q else Q (.bl false) H5) else Q (.bl false) H3)) : tChain3 r r' r2 ta tb tc td σ H Q := h
theorem r_sFld {f : Str} (h : te σ H fun y H1 => ta σ H1 fun x H2 => ∃ a C dx fs, x = .ref a ∧ H2 a = some (.ins C dx fs) ∧ Cls K C ∧ NoAttr K C f ∧ fs.length < 1000 ∧ nx σ (upd H2 a (.ins C dx (putF f y fs)))) : sFld K ta te f ⟨nx, rt, bk, ct⟩ σ H := h
theorem r_test {N : Bool → Hp → Prop} (h : te σ H fun x H' => ∃ k, x = .bl k ∧ N k H') : tTest te σ H N := h
theorem r_B {N : Bool → Hp → Prop} (h : te σ H fun x H' => ∃ k, x = .bl k ∧ N k H') : tB te σ H N := h
theorem r_bl {b : Bool} {N : Bool → Prop} (h : N b) : ∃ k, V.bl b = V.bl k ∧ N k := ⟨b, rfl, h⟩
theorem r_not {N : Bool → Hp → Prop} (h : tt σ H fun c H1 => N (!c) H1) : tNot tt σ H N := h
theorem r_and {N : Bool → Hp → Prop} (h : tt σ H fun c H1 => if c = true then tu σ H1 N else N false H1) : tAnd tt tu σ H N := h
theorem r_or {N : Bool → Hp → Prop} (h : tt σ H fun c H1 => if c = true then N true H1 else tu σ H1 N) : tOr tt tu σ H N := h
theorem r_andV (h : ta σ H fun x H1 => ∃ c, x = .bl c ∧ if c = true then tb σ H1 Q else Q (.bl false) H1) : tAndV ta tb σ H Q := h
theorem r_orV (h : ta σ H fun x H1 => ∃ c, x = .bl c ∧ if c = true then Q (.bl true) H1 else tb σ H1 Q) : tOrV ta tb σ H Q := h
theorem r_notV (h : ta σ H fun x H1 => ∃ c, x = .bl c ∧ Q (.bl (!c)) H1) : tNotV ta σ H Q := h
theorem r_ifE {c : TT} (h : c σ H fun b H1 => if b = true then ta σ H1 Q else tb σ H1 Q) : tIf c ta tb σ H Q := h
theorem r_cons {tr : TA} {N : List V → Hp → Prop} (h : ta σ H fun x H1 => tr σ H1 fun xs H2 => N (x :: xs) H2) : tCons ta tr σ H N := h
theorem r_nil {N : List V → Hp → Prop} (h : N [] H) : tNil σ H N := h
theorem r_lst {tr : TA} (h : tr σ H fun xs H1 => xs.length ≤ sizeLine ∧ ∀ p, H1 p = none → Q (.ref p) (upd H1 p (.lst xs))) : tLst tr σ H Q := h
theorem r_tup {tr : TA} (h : tr σ H fun xs H1 => xs.length ≤ sizeLine ∧ ∀ p, H1 p = none → Q (.ref p) (upd H1 p (.tup xs))) : tTup tr σ H Q := h
theorem r_CB {tr : TA} {r : List V → Hp → VK → Prop} (h : tr σ H fun vs H1 => r vs H1 Q) : tCB r tr σ H Q := h
theorem r_call {tr : TA} {sp : Sp} {dvs : List V} {E : XK} (h : tr σ H fun vs H1 => sp (vs ++ dvs) H1 Q E) : tCall sp dvs E tr σ H Q := h
theorem r_sl {r : V → Option Int → Option Int → Hp → VK → Prop} {tl th : TO} (h : te σ H fun x H1 => tl σ H1 fun lo H2 => th σ H2 fun hi H3 => r x lo hi H3 Q) : tSl r te tl th σ H Q := h
theorem r_part {N : Option Int → Hp → Prop} (h : te σ H fun x H1 => ∃ i, x = .int i ∧ N (some i) H1) : tPart te σ H N := h
theorem r_int {i : Int} {N : Int → Prop} (h : N i) : ∃ k, V.int i = V.int k ∧ N k := ⟨i, rfl, h⟩
theorem r_noPart {N : Option Int → Hp → Prop} (h : N none H) : tNoPart σ H N := h
theorem r_bm {T : String} {r : V → List V → Hp → VK → Prop} {tr : TA} (h : te σ H fun x H1 => tyV K T x H1 ∧ tr σ H1 fun xs H2 => r x xs H2 Q) : tBM K T r te tr σ H Q := h
theorem r_bm0 {T : String} {r : V → List V → Hp → VK → Prop} (h : te σ H fun x H1 => tyV K T x H1 ∧ r x [] H1 Q) : tBM0 K T r te σ H Q := h
theorem r_fld {f : Str} (h : ta σ H fun x H1 => ∃ a C dx fs v, x = .ref a ∧ H1 a = some (.ins C dx fs) ∧ Cls K C ∧ NoAttr K C f ∧ fs.lookup f = some v ∧ Q v H1) : tFld K ta f σ H Q := h
theorem r_I0 {g : Int → Int → V} {i j : Int} (h : Q (g i j) H) : rI0 g (.int i) (.int j) H Q := ⟨i, j, rfl, rfl, h⟩
theorem r_I {C : Int → Int → Prop} {g : Int → Int → V} {i j : Int} (hc : C i j) (h : Q (g i j) H) : rI C g (.int i) (.int j) H Q := ⟨i, j, rfl, rfl, hc, h⟩
theorem r_U {g : Int → V} {i : Int} (h : Q (g i) H) : rU g (.int i) H Q := ⟨i, rfl, h⟩
/-- a Row: its attributes, where it stands -/
def rowF (l : Addr) : List (Str × V) := [("kept", .ref l)]
def RowOb (C : Addr) (H : Hp) (p l : Addr) : Prop := ∃ dx, H p = some (.ins C dx (rowF l))
theorem r_meth {C : Addr} {m : Str} {sp : Sp} {dvs : List V} {E : XK} {tr : TA} (h : ta σ H fun x H1 => ∃ a dx fs, x = .ref a ∧ H1 a = some (.ins C dx fs) ∧ fs.lookup m = none ∧ tr σ H1 fun vs H2 => sp (x :: (vs ++ dvs)) H2 Q E) : tMeth C m sp dvs E ta tr σ H Q := h
theorem r_make {C : Addr} {sp : Sp} {dvs : List V} {E : XK} {tr : TA} (h : tr σ H fun vs H1 => ∀ x dx, H1 x = none → H1 dx = none → dx ≠ x → sp (.ref x :: (vs ++ dvs)) (upd (upd H1 dx (.own x)) x (.ins C dx [])) (fun v H2 => v = .non ∧ Q (.ref x) H2) E) : tMake C sp dvs E tr σ H Q := h
theorem rowF_kept (l : Addr) : (rowF l).lookup ("kept" : Str) = some (.ref l) := by
  unfold rowF
  rw [List.lookup_cons]
  simp
theorem rowF_no (l : Addr) {m : Str} (h : ¬ m = "kept") : (rowF l).lookup m = none := by
  unfold rowF
  rw [List.lookup_cons]
  have e : (m == ("kept" : Str)) = false := by simpa using h
  rw [e]
  rfl
theorem r_fldR {p l C dx : Addr} (h : H p = some (.ins C dx (rowF l))) (c : Cls K C) (n : NoAttr K C "kept") {N : V → Prop} (q : N (.ref l)) : ∃ a C dx fs v, V.ref p = .ref a ∧ H a = some (.ins C dx fs) ∧ Cls K C ∧ NoAttr K C "kept" ∧ fs.lookup ("kept" : Str) = some v ∧ N v := ⟨p, C, dx, rowF l, _, rfl, h, c, n, rowF_kept l, q⟩
theorem r_methR {p l C dx : Addr} {m : Str} {N : Prop} (h : H p = some (.ins C dx (rowF l))) (hm : ¬ m = "kept") (q : N) : ∃ a dx fs, V.ref p = .ref a ∧ H a = some (.ins C dx fs) ∧ fs.lookup m = none ∧ N := ⟨p, dx, rowF l, rfl, h, rowF_no l hm, q⟩
theorem r_new {n : Nat} {N : Addr → Prop} (z : n ≤ 1000000) (q : ∀ p, H p = none → N p) : n ≤ sizeLine ∧ ∀ p, H p = none → N p := ⟨sz z, q⟩
theorem dec_int {i j : Int} : decide (V.int i = V.int j) = decide (i = j) := by
  by_cases h : i = j
  · rw [h, decide_eq_true rfl, decide_eq_true rfl]
  · rw [decide_eq_false h, decide_eq_false (fun e => h (V.int.inj e))]
theorem dec_bl {i j : Bool} : decide (V.bl i = V.bl j) = decide (i = j) := by
  by_cases h : i = j
  · rw [h, decide_eq_true rfl, decide_eq_true rfl]
  · rw [decide_eq_false h, decide_eq_false (fun e => h (V.bl.inj e))]
theorem r_eqI {i j : Int} (h : Q (.bl (decide (i = j))) H) : rEq (.int i) (.int j) H Q := ⟨rfl, by rw [dec_int]; exact h⟩
theorem r_neI {i j : Int} (h : Q (.bl (!decide (i = j))) H) : rNe (.int i) (.int j) H Q := ⟨rfl, by rw [dec_int]; exact h⟩
theorem r_eqB {i j : Bool} (h : Q (.bl (decide (i = j))) H) : rEq (.bl i) (.bl j) H Q := ⟨rfl, by rw [dec_bl]; exact h⟩
theorem r_neB {i j : Bool} (h : Q (.bl (!decide (i = j))) H) : rNe (.bl i) (.bl j) H Q := ⟨rfl, by rw [dec_bl]; exact h⟩
theorem r_isN {x : V} (h : Q (.bl (decide (x = .non))) H) : rIsN x .non H Q := ⟨rfl, h⟩
theorem r_notN {x : V} (h : Q (.bl (!decide (x = .non))) H) : rNotN x .non H Q := ⟨rfl, h⟩
/-- branches -/
theorem br {b : Bool} {A B : Prop} (h1 : b = true → A) (h2 : b = false → B) : if b = true then A else B := by
  cases b with
  | true => exact iteT (h1 rfl)
  | false => exact iteF (h2 rfl)
theorem brD {p : Prop} [Decidable p] {A B : Prop} (h1 : p → A) (h2 : ¬ p → B) : if decide p = true then A else B := by
  by_cases h : p
  · rw [if_pos (decide_eq_true h)]
    exact h1 h
  · rw [if_neg (by rw [decide_eq_false h]; exact Bool.false_ne_true)]
    exact h2 h
theorem brN {p : Prop} [Decidable p] {A B : Prop} (h1 : ¬ p → A) (h2 : p → B) : if (!decide p) = true then A else B := by
  by_cases h : p
  · rw [if_neg (by rw [decide_eq_true h]; exact Bool.false_ne_true)]
    exact h2 h
  · rw [if_pos (by rw [decide_eq_false h]; rfl)]
    exact h1 h
theorem brT {p : Prop} [Decidable p] {A B : Prop} (h : p) (h1 : A) : if decide p = true then A else B := brD (fun _ => h1) (fun n => absurd h n)
theorem brF {p : Prop} [Decidable p] {A B : Prop} (h : ¬ p) (h1 : B) : if decide p = true then A else B := brD (fun n => absurd n h) (fun _ => h1)
theorem brNT {p : Prop} [Decidable p] {A B : Prop} (h : ¬ p) (h1 : A) : if (!decide p) = true then A else B := brN (fun _ => h1) (fun n => absurd n h)
theorem brNF {p : Prop} [Decidable p] {A B : Prop} (h : p) (h1 : B) : if (!decide p) = true then A else B := brN (fun n => absurd h n) (fun _ => h1)
/-- and, or of two tests that leave the heap: one answer -/
theorem r_andD {p q : Bool} {N : Bool → Hp → Prop} (h1 : ∀ Z : Bool → Hp → Prop, Z p H → tt σ H Z) (h2 : ∀ Z : Bool → Hp → Prop, Z q H → tu σ H Z) (h : N (p && q) H) : tAnd tt tu σ H N := by
  refine h1 _ ?_
  cases p with
  | true => exact iteT (h2 _ h)
  | false => exact iteF h
theorem r_orD {p q : Bool} {N : Bool → Hp → Prop} (h1 : ∀ Z : Bool → Hp → Prop, Z p H → tt σ H Z) (h2 : ∀ Z : Bool → Hp → Prop, Z q H → tu σ H Z) (h : N (p || q) H) : tOr tt tu σ H N := by
  refine h1 _ ?_
  cases p with
  | true => exact iteT h
  | false => exact iteF (h2 _ h)
theorem brA {p q : Prop} [Decidable p] [Decidable q] {A B : Prop} (h1 : p → q → A) (h2 : ¬ (p ∧ q) → B) : if (decide p && decide q) = true then A else B := by
  by_cases hp : p
  · by_cases hq : q
    · rw [decide_eq_true hp, decide_eq_true hq]
      exact iteT (h1 hp hq)
    · rw [decide_eq_false hq, Bool.and_false]
      exact iteF (h2 fun z => hq z.2)
  · rw [decide_eq_false hp, Bool.false_and]
    exact iteF (h2 fun z => hp z.1)
theorem brO {p q : Prop} [Decidable p] [Decidable q] {A B : Prop} (h1 : p ∨ q → A) (h2 : ¬ p → ¬ q → B) : if (decide p || decide q) = true then A else B := by
  by_cases hp : p
  · rw [decide_eq_true hp, Bool.true_or]
    exact iteT (h1 (.inl hp))
  · by_cases hq : q
    · rw [decide_eq_true hq, Bool.or_true]
      exact iteT (h1 (.inr hq))
    · rw [decide_eq_false hp, decide_eq_false hq]
      exact iteF (h2 hp hq)
theorem r_len {p : Addr} {ys : List V} (h : SqL K H p ys) (q : Q (.int (ys.length : Int)) H) : rLen K [.ref p] H Q := ⟨p, ys, rfl, .inl h, q⟩
theorem r_lenI {p : Addr} {ns : List Int} (h : SqL K H p (ns.map V.int)) (q : Q (.int (ns.length : Int)) H) : rLen K [.ref p] H Q := ⟨p, _, rfl, .inl h, by rw [List.length_map]; exact q⟩
theorem r_lenT {p : Addr} {ys : List V} (h : SqT K H p ys) (q : Q (.int (ys.length : Int)) H) : rLen K [.ref p] H Q := ⟨p, ys, rfl, .inr h, q⟩
theorem r_listOf {p : Addr} {ys : List V} (h : SqL K H p ys) (q : ∀ l, H l = none → Q (.ref l) (upd H l (.lst ys))) : rListOf K [.ref p] H Q := ⟨p, ys, rfl, .inl h, q⟩
theorem r_index3 {a : Addr} {ns : List Int} {y i : Int} {j : Nat} (h : SqL K H a (ns.map V.int)) (h0 : 0 ≤ i) (h1 : i.toNat ≤ j) (hj : ns[j]? = some y) (hn : ∀ m : Nat, i.toNat ≤ m → m < j → ns[m]? ≠ some y) (q : Q (.int (j : Nat)) H) : rIndex3 K (.ref a) [.int y, .int i] H Q := ⟨a, ns, y, i, j, rfl, rfl, h, h0, h1, hj, hn, q⟩
theorem r_min {a : Addr} {ns : List Int} (h : SqL K H a (ns.map V.int)) (hn : 0 < ns.length) (q : ∀ m, m ∈ ns → (∀ x, x ∈ ns → m ≤ x) → Q (.int m) H) : rMin K [.ref a] H Q := ⟨a, ns, rfl, h, hn, q⟩
theorem r_max {a : Addr} {ns : List Int} (h : SqL K H a (ns.map V.int)) (hn : 0 < ns.length) (q : ∀ m, m ∈ ns → (∀ x, x ∈ ns → x ≤ m) → Q (.int m) H) : rMax K [.ref a] H Q := ⟨a, ns, rfl, h, hn, q⟩
theorem r_sum {a : Addr} {ns : List Int} (h : SqL K H a (ns.map V.int)) (q : Q (.int ns.sum) H) : rSum K [.ref a] H Q := ⟨a, ns, rfl, h, q⟩
theorem r_min2 {i j : Int} (q : Q (.int (if j < i then j else i)) H) : rMin2 [.int i, .int j] H Q := ⟨i, j, rfl, q⟩
theorem r_max2 {i j : Int} (q : Q (.int (if j > i then j else i)) H) : rMax2 [.int i, .int j] H Q := ⟨i, j, rfl, q⟩
theorem r_abs {i : Int} (q : Q (.int (if i < 0 then -i else i)) H) : rAbs [.int i] H Q := ⟨i, rfl, q⟩
theorem r_ixL {p : Addr} {xs : List V} {i : Int} {v : V} (h : SqL K H p xs) (ha : atI xs i = some v) (q : Q v H) : rIxL K (.ref p) (.int i) H Q := ⟨p, xs, i, v, rfl, rfl, h, ha, q⟩
theorem r_ixT {p : Addr} {xs : List V} {i : Int} {v : V} (h : SqT K H p xs) (ha : atI xs i = some v) (q : Q v H) : rIxT K (.ref p) (.int i) H Q := ⟨p, xs, i, v, rfl, rfl, h, ha, q⟩
theorem r_slL {p : Addr} {xs : List V} {lo hi : Option Int} (h : SqL K H p xs) (q : ∀ l, H l = none → Q (.ref l) (upd H l (.lst (cutV xs lo hi)))) : rSlL K (.ref p) lo hi H Q := ⟨p, xs, rfl, h, q⟩
theorem r_cat {l b : Addr} {xs zs : List V} (h : H l = some (.lst xs)) (h' : H b = some (.lst zs)) (z : xs.length + zs.length ≤ 1000000) (q : ∀ p, H p = none → Q (.ref p) (upd H p (.lst (xs ++ zs)))) : rCat (.ref l) (.ref b) H Q := ⟨l, b, xs, zs, rfl, rfl, h, h', sz z, q⟩
theorem r_app {l : Addr} {xs : List V} {v : V} (h : H l = some (.lst xs)) (z : xs.length ≤ 1000000) (q : Q .non (upd H l (.lst (xs ++ [v])))) : rAppend (.ref l) [v] H Q := ⟨l, xs, v, rfl, rfl, h, szl z, q⟩
theorem r_tyL {p : Addr} {xs : List V} {N : Prop} (h : SqL K H p xs) (q : N) : tyV K "list" (.ref p) H ∧ N := ⟨.inl ⟨rfl, xs, h⟩, q⟩
theorem r_ins {l : Addr} {xs : List V} {i : Int} {y : V} (h : H l = some (.lst xs)) (z : xs.length ≤ 1000000) (i0 : 0 ≤ i) (i1 : i ≤ 1000000) (q : Q .non (upd H l (.lst (xs.take i.toNat ++ [y] ++ xs.drop i.toNat)))) : rIns (.ref l) [.int i, y] H Q := ⟨l, xs, i, y, rfl, rfl, h, szl z, i0, Int.lt_of_le_of_lt i1 (by decide), q⟩
theorem map_erase (ns : List Int) (k : Nat) : (ns.map V.int).eraseIdx k = (ns.eraseIdx k).map V.int := by
  induction ns generalizing k with
  | nil => rfl
  | cons a r ih =>
    cases k with
    | zero => rfl
    | succ k =>
      show V.int a :: (r.map V.int).eraseIdx k = V.int a :: (r.eraseIdx k).map V.int
      rw [ih]
theorem seq_ix {n : Nat} {i : Int} (h0 : 0 ≤ i) (h1 : i < (n : Int)) : seqIndex? i n = some i.toNat := by
  have e : ixN n i = some i.toNat := by
    unfold ixN
    rw [if_pos h0, if_pos h1]
  exact (ixN_seq e).1
theorem snoc_int (ns : List Int) (x : Int) : ns.map V.int ++ [V.int x] = (ns ++ [x]).map V.int := by
  rw [List.map_append]
  rfl
theorem r_popAt {l : Addr} {ns : List Int} {i z : Int} (h : H l = some (.lst (ns.map V.int))) (h0 : 0 ≤ i) (h1 : i < 1000000) (hz : ns[i.toNat]? = some z) (q : Q (.int z) (upd H l (.lst ((ns.eraseIdx i.toNat).map V.int)))) : rPopAt (.ref l) [.int i] H Q := by
  have hi : i.toNat < ns.length := (List.getElem?_eq_some_iff.mp hz).1
  refine ⟨l, ns.map V.int, i, i.toNat, .int z, rfl, rfl, h, by omega, by omega, ?_, ?_, ?_⟩
  · rw [List.length_map]
    exact seq_ix h0 (by omega)
  · rw [List.getElem?_map, hz] <;> rfl
  · rw [map_erase]
    exact q
theorem sIx_int {n d : Nat} {i : Int} (h0 : 0 ≤ i) (h1 : i ≤ (n : Int)) : HT.sIx n d (some i) = i.toNat := by
  have e : i = ((i.toNat : Nat) : Int) := by omega
  rw [e, HT.sIx_nat, Int.toNat_natCast]
  omega
theorem cut_take {xs : List V} {i : Int} (h0 : 0 ≤ i) (h1 : i ≤ (xs.length : Int)) : cutV xs none (some i) = xs.take i.toNat := by
  unfold cutV
  rw [sIx_int h0 h1, HT.sIx_none, List.drop_zero, Nat.sub_zero]
theorem cut_drop {xs : List V} {i : Int} (h0 : 0 ≤ i) (h1 : i ≤ (xs.length : Int)) : cutV xs (some i) none = xs.drop i.toNat := by
  unfold cutV
  rw [sIx_int h0 h1, HT.sIx_none]
  exact List.take_of_length_le (by rw [List.length_drop]; exact Nat.le_refl _)
theorem cut_mid {xs : List V} {i j : Int} (h0 : 0 ≤ i) (h1 : i ≤ (xs.length : Int)) (h2 : 0 ≤ j) (h3 : j ≤ (xs.length : Int)) : cutV xs (some i) (some j) = (xs.drop i.toNat).take (j.toNat - i.toNat) := by
  unfold cutV
  rw [sIx_int h0 h1, sIx_int h2 h3]
theorem cut_takeI {ns : List Int} {i : Int} (h0 : 0 ≤ i) (h1 : i ≤ (ns.length : Int)) : cutV (ns.map V.int) none (some i) = (ns.take i.toNat).map V.int := by
  rw [cut_take h0 (by rw [List.length_map]; exact h1), List.map_take]
theorem cut_dropI {ns : List Int} {i : Int} (h0 : 0 ≤ i) (h1 : i ≤ (ns.length : Int)) : cutV (ns.map V.int) (some i) none = (ns.drop i.toNat).map V.int := by
  rw [cut_drop h0 (by rw [List.length_map]; exact h1), List.map_drop]
theorem cut_midI {ns : List Int} {i j : Int} (h0 : 0 ≤ i) (h1 : i ≤ (ns.length : Int)) (h2 : 0 ≤ j) (h3 : j ≤ (ns.length : Int)) : cutV (ns.map V.int) (some i) (some j) = ((ns.drop i.toNat).take (j.toNat - i.toNat)).map V.int := by
  rw [cut_mid h0 (by rw [List.length_map]; exact h1) h2 (by rw [List.length_map]; exact h3), List.map_take, List.map_drop]
theorem cut_int (ns : List Int) (lo hi : Option Int) : ∃ ms : List Int, cutV (ns.map V.int) lo hi = ms.map V.int ∧ ms.length ≤ ns.length := by
  refine ⟨(ns.drop (HT.sIx ns.length 0 lo)).take (HT.sIx ns.length ns.length hi - HT.sIx ns.length 0 lo), ?_, ?_⟩
  · unfold cutV
    rw [List.length_map, List.map_take, List.map_drop]
  · rw [List.length_take, List.length_drop]
    omega
theorem same_made {H H' : Hp} {x dx C : Addr} (nx : H x = none) (nd : H dx = none) (k : But x (upd (upd H dx (.own x)) x (.ins C dx [])) H') : Same H H' := fun b o e =>
  k b o (by rw [upd_ne (ne_of_none e nx), upd_ne (ne_of_none e nd)]; exact e) (ne_of_none e nx)
theorem r_at {xs : List V} {j : Nat} {v : V} {i : Int} (e : i = (j : Int)) (h : xs[j]? = some v) : atI xs i = some v := by
  rw [e]
  exact atI_nat h
/-- comparison of data -/
def pdV : V → PyData
  | .bl b => .bool b
  | .int i => .int i
  | _ => .none
def okV : V → Bool
  | .non => true
  | .int _ => true
  | _ => false
theorem okV_eqv : ∀ {x y : V}, okV x = true → okV y = true → PyData.eqv (pdV x) (pdV y) = decide (x = y)
  | .non, .non, _, _ => by rw [decide_eq_true rfl] <;> rfl
  | .non, .int j, _, _ => by rw [decide_eq_false (by intro h; cases h)] <;> rfl
  | .int i, .non, _, _ => by rw [decide_eq_false (by intro h; cases h)] <;> rfl
  | .int i, .int j, _, _ => by rw [dec_int] <;> rfl
theorem eqv_flat : ∀ {xs ys : List V}, xs.all okV = true → ys.all okV = true → PyData.eqvAll (xs.map pdV) (ys.map pdV) = decide (xs = ys)
  | [], [], _, _ => by rw [decide_eq_true rfl] <;> rfl
  | [], y :: ys, _, _ => by rw [decide_eq_false (by intro h; cases h)] <;> rfl
  | x :: xs, [], _, _ => by rw [decide_eq_false (by intro h; cases h)] <;> rfl
  | x :: xs, y :: ys, h1, h2 => by
    rw [List.all_cons, Bool.and_eq_true] at h1 h2
    have ih := eqv_flat (xs := xs) (ys := ys) h1.2 h2.2
    have e1 := okV_eqv h1.1 h2.1
    show (PyData.eqv (pdV x) (pdV y) && PyData.eqvAll (xs.map pdV) (ys.map pdV)) = _
    rw [ih, e1]
    by_cases a : x = y
    · by_cases b : xs = ys
      · rw [a, b]
        simp
      · rw [decide_eq_false b, Bool.and_false, decide_eq_false (by intro h; cases h; exact b rfl)]
    · rw [decide_eq_false a, Bool.false_and, decide_eq_false (by intro h; cases h; exact a rfl)]
theorem dpAll_flat {H : Hp} : ∀ {xs : List V}, xs.all okV = true → DpAll K H xs (xs.map pdV)
  | [], _ => .nil
  | .non :: xs, h => .cons .non (dpAll_flat (by rw [List.all_cons, Bool.and_eq_true] at h; exact h.2))
  | .int i :: xs, h => .cons (.int i) (dpAll_flat (by rw [List.all_cons, Bool.and_eq_true] at h; exact h.2))
theorem lay_flat : ∀ {xs : List V}, xs.all okV = true → PyData.canLayAll0 (xs.map pdV) = true ∧ PyData.depthAll (xs.map pdV) = 0
  | [], _ => ⟨rfl, rfl⟩
  | .non :: xs, h => by
    have ih := lay_flat (xs := xs) (by rw [List.all_cons, Bool.and_eq_true] at h; exact h.2)
    exact ⟨by show (true && PyData.canLayAll0 (xs.map pdV)) = true; rw [ih.1] <;> rfl, by show max 0 (PyData.depthAll (xs.map pdV)) = 0; rw [ih.2] <;> rfl⟩
  | .int i :: xs, h => by
    have ih := lay_flat (xs := xs) (by rw [List.all_cons, Bool.and_eq_true] at h; exact h.2)
    exact ⟨by show (true && PyData.canLayAll0 (xs.map pdV)) = true; rw [ih.1] <;> rfl, by show max 0 (PyData.depthAll (xs.map pdV)) = 0; rw [ih.2] <;> rfl⟩
theorem shaped_flat {xs : List V} (h : xs.all okV = true) : SeqAt.shaped (.list (xs.map pdV)) = true := by
  obtain ⟨a, b⟩ := lay_flat h
  show (PyData.canLayAll0 (xs.map pdV) && decide (PyData.depthAll (xs.map pdV) + 1 ≤ 64)) = true
  rw [a, b]
  rfl
theorem shaped_flatT {xs : List V} (h : xs.all okV = true) : SeqAt.shaped (.tuple (xs.map pdV)) = true := by
  obtain ⟨a, b⟩ := lay_flat h
  show (PyData.canLayAll0 (xs.map pdV) && decide (PyData.depthAll (xs.map pdV) + 1 ≤ 64)) = true
  rw [a, b]
  rfl
theorem r_eqL {a b : Addr} {xs ys : List V} (h : SqL K H a xs) (h' : SqL K H b ys) (o : xs.all okV = true) (o' : ys.all okV = true) (q : Q (.bl (decide (xs = ys))) H) : rEqD K (.ref a) (.ref b) H Q :=
  ⟨_, _, .lst h (dpAll_flat o), .lst h' (dpAll_flat o'), shaped_flat o, shaped_flat o', by
    show Q (.bl (PyData.eqvAll (xs.map pdV) (ys.map pdV))) H
    rw [eqv_flat o o']
    exact q⟩
theorem r_neL {a b : Addr} {xs ys : List V} (h : SqL K H a xs) (h' : SqL K H b ys) (o : xs.all okV = true) (o' : ys.all okV = true) (q : Q (.bl (!decide (xs = ys))) H) : rNeD K (.ref a) (.ref b) H Q :=
  ⟨_, _, .lst h (dpAll_flat o), .lst h' (dpAll_flat o'), shaped_flat o, shaped_flat o', by
    show Q (.bl (!PyData.eqvAll (xs.map pdV) (ys.map pdV))) H
    rw [eqv_flat o o']
    exact q⟩
theorem r_eqT {a b : Addr} {xs ys : List V} (h : SqT K H a xs) (h' : SqT K H b ys) (o : xs.all okV = true) (o' : ys.all okV = true) (q : Q (.bl (decide (xs = ys))) H) : rEqD K (.ref a) (.ref b) H Q :=
  ⟨_, _, .tup h (dpAll_flat o), .tup h' (dpAll_flat o'), shaped_flatT o, shaped_flatT o', by
    show Q (.bl (PyData.eqvAll (xs.map pdV) (ys.map pdV))) H
    rw [eqv_flat o o']
    exact q⟩
theorem r_neT {a b : Addr} {xs ys : List V} (h : SqT K H a xs) (h' : SqT K H b ys) (o : xs.all okV = true) (o' : ys.all okV = true) (q : Q (.bl (!decide (xs = ys))) H) : rNeD K (.ref a) (.ref b) H Q :=
  ⟨_, _, .tup h (dpAll_flat o), .tup h' (dpAll_flat o'), shaped_flatT o, shaped_flatT o', by
    show Q (.bl (!PyData.eqvAll (xs.map pdV) (ys.map pdV))) H
    rw [eqv_flat o o']
    exact q⟩
theorem all_int (ns : List Int) : (ns.map V.int).all okV = true := by
  rw [List.all_map]
  exact List.all_eq_true.mpr fun _ _ => rfl
theorem map_int_inj {a b : List Int} (h : a.map V.int = b.map V.int) : a = b := by
  have := congrArg (List.map fun v => match v with | V.int i => i | _ => 0) h
  rw [List.map_map, List.map_map] at this
  have e : ((fun v => match v with | V.int i => i | _ => 0) ∘ V.int) = (id : Int → Int) := by funext x; rfl
  rw [e, List.map_id, List.map_id] at this
  exact this
theorem dec_ints {a b : List Int} : decide (a.map V.int = b.map V.int) = decide (a = b) := by
  by_cases h : a = b
  · rw [h, decide_eq_true rfl, decide_eq_true rfl]
  · rw [decide_eq_false h, decide_eq_false (fun e => h (map_int_inj e))]
/-- isinstance -/
theorem r_isiT {x : V} {a b : String} (ty : TyX K H x (.type a)) (h : kitB a b = some true) (q : Q (.bl true) H) : rIsi K [x, .ty b] H Q := ⟨x, .ty b, .type a, .type b, true, rfl, .ty b, ty, kit_ty h, q⟩
theorem r_isiF {x : V} {a b : String} (ty : TyX K H x (.type a)) (h : kitB a b = some false) (q : Q (.bl false) H) : rIsi K [x, .ty b] H Q := ⟨x, .ty b, .type a, .type b, false, rfl, .ty b, ty, kit_ty h, q⟩
theorem tyX_sq {a : Addr} {xs : List V} (h : SqL K H a xs) : TyX K H (.ref a) (.type "list") := by
  rcases h with (h | ⟨o, h⟩) | ⟨o, its, n, h1, h2, _⟩
  · exact .base (.lst h)
  · exact .base (.frz h)
  · exact .kList h1 h2

/-! ### loops: the reading waits at one of these, its arguments seen -/
def LoopR (lo : Int) (n j : Nat) (tb : TS) : TS := fun D σ H => ∃ W : Nat → Nat → L2.St → Hp → Prop, (∃ m, W 0 m σ H) ∧ ∀ i m σ H, W i m σ H →
  ((Itr lo n).stop i H ∧ D.nx σ H) ∨ ((Itr lo n).go i H ∧ ∃ N : L2.St → Hp → Prop, (∀ σ' H', N σ' H' → ∃ m', m' < m ∧ W (i + 1) m' σ' H') ∧ ∀ x H', (Itr lo n).yld i H x H' → gName j x σ H' fun σ2 H2 => tb ⟨N, D.rt, D.nx, N⟩ σ2 H2)
def LoopL (K : PySem.W.Frag) (a : Addr) (j : Nat) (tb : TS) : TS := fun D σ H => ∃ W : Nat → Nat → L2.St → Hp → Prop, (∃ m, W 0 m σ H) ∧ ∀ i m σ H, W i m σ H →
  ((Itl K a).stop i H ∧ D.nx σ H) ∨ ((Itl K a).go i H ∧ ∃ N : L2.St → Hp → Prop, (∀ σ' H', N σ' H' → ∃ m', m' < m ∧ W (i + 1) m' σ' H') ∧ ∀ x H', (Itl K a).yld i H x H' → gName j x σ H' fun σ2 H2 => tb ⟨N, D.rt, D.nx, N⟩ σ2 H2)
def LoopC (lo c : Int) (n j : Nat) (tb : TS) : TS := fun D σ H => ∃ W : Nat → Nat → L2.St → Hp → Prop, (∃ m, W 0 m σ H) ∧ ∀ i m σ H, W i m σ H →
  ((Itc lo c n).stop i H ∧ D.nx σ H) ∨ ((Itc lo c n).go i H ∧ ∃ N : L2.St → Hp → Prop, (∀ σ' H', N σ' H' → ∃ m', m' < m ∧ W (i + 1) m' σ' H') ∧ ∀ x H', (Itc lo c n).yld i H x H' → gName j x σ H' fun σ2 H2 => tb ⟨N, D.rt, D.nx, N⟩ σ2 H2)
theorem r_for1 {tr : TA} {j : Nat} {tb : TS} (h : tr σ H fun vs H1 => ∃ n : Int, vs = [.int n] ∧ -(2 ^ 62) ≤ n ∧ n < 2 ^ 62 ∧ LoopR 0 n.toNat j tb ⟨nx, rt, bk, ct⟩ σ H1) : tFor (iRng1 tr) (gName j) tb ⟨nx, rt, bk, ct⟩ σ H := h
theorem r_rng1 {n : Int} {N : Int → Prop} (h : -1000000 ≤ n ∧ n ≤ 1000000) (q : N n) : ∃ m : Int, ([.int n] : List V) = [.int m] ∧ -(2 ^ 62) ≤ m ∧ m < 2 ^ 62 ∧ N m := ⟨n, rfl, by omega, by omega, q⟩
theorem r_for2 {tr : TA} {j : Nat} {tb : TS} (h : tr σ H fun vs H1 => ∃ m n : Int, vs = [.int m, .int n] ∧ (-(2 ^ 62) ≤ m ∧ m < 2 ^ 62 ∧ -(2 ^ 62) ≤ n ∧ n < 2 ^ 62) ∧ LoopR m (n - m).toNat j tb ⟨nx, rt, bk, ct⟩ σ H1) : tFor (iRng2 tr) (gName j) tb ⟨nx, rt, bk, ct⟩ σ H := h
theorem r_rng2 {m n : Int} {N : Int → Int → Prop} (h : -1000000 ≤ m ∧ m ≤ 1000000 ∧ -1000000 ≤ n ∧ n ≤ 1000000) (q : N m n) : ∃ a b : Int, ([.int m, .int n] : List V) = [.int a, .int b] ∧ (-(2 ^ 62) ≤ a ∧ a < 2 ^ 62 ∧ -(2 ^ 62) ≤ b ∧ b < 2 ^ 62) ∧ N a b := ⟨m, n, rfl, ⟨by omega, by omega, by omega, by omega⟩, q⟩
theorem r_forL {j : Nat} {tb : TS} (h : te σ H fun x H1 => ∃ a, x = .ref a ∧ (∃ xs, SqL K H1 a xs) ∧ LoopL K a j tb ⟨nx, rt, bk, ct⟩ σ H1) : tFor (iList K te) (gName j) tb ⟨nx, rt, bk, ct⟩ σ H := h
theorem r_itL {a : Addr} {xs : List V} {N : Addr → Prop} (h : SqL K H a xs) (q : N a) : ∃ b, V.ref a = .ref b ∧ (∃ xs, SqL K H b xs) ∧ N b := ⟨a, rfl, ⟨xs, h⟩, q⟩
theorem r_forC {j : Nat} {tb : TS} {tr : L2.St → Hp → (Int → Int → Hp → Prop) → Prop} (h : tr σ H fun a b H1 => -(2 ^ 62) ≤ a ∧ a < 2 ^ 62 ∧ -(2 ^ 62) ≤ b ∧ b < 2 ^ 62 ∧ LoopC (a + (((b - a).toNat : Nat) : Int) - 1) (-1) (b - a).toNat j tb ⟨nx, rt, bk, ct⟩ σ H1) : tFor (iRevR tr) (gName j) tb ⟨nx, rt, bk, ct⟩ σ H := h
theorem r_loopR {lo : Int} {n j : Nat} {tb : TS} (Pv : Nat → L2.St → Hp → Prop) (h0 : Pv 0 σ H)
    (hs : ∀ i σ' H', i < n → Pv i σ' H' → tb ⟨Pv (i + 1), rt, nx, Pv (i + 1)⟩ (σ'.set j (some (.int (lo + (i : Int))))) H') (hd : ∀ σ' H', Pv n σ' H' → nx σ' H') : LoopR lo n j tb ⟨nx, rt, bk, ct⟩ σ H :=
  for_range (g := gName j) Pv h0 hs hd
theorem r_loop0 {n j : Nat} {tb : TS} (Pv : Nat → L2.St → Hp → Prop) (h0 : Pv 0 σ H)
    (hs : ∀ i σ' H', i < n → Pv i σ' H' → tb ⟨Pv (i + 1), rt, nx, Pv (i + 1)⟩ (σ'.set j (some (.int (i : Int)))) H') (hd : ∀ σ' H', Pv n σ' H' → nx σ' H') : LoopR 0 n j tb ⟨nx, rt, bk, ct⟩ σ H :=
  r_loopR Pv h0 (fun i σ' H' hi hp => by
    have e : (0 : Int) + (i : Int) = (i : Int) := Int.zero_add _
    rw [e]
    exact hs i σ' H' hi hp) hd
theorem r_loopC {lo c : Int} {n j : Nat} {tb : TS} (Pv : Nat → L2.St → Hp → Prop) (h0 : Pv 0 σ H)
    (hs : ∀ i σ' H', i < n → Pv i σ' H' → tb ⟨Pv (i + 1), rt, nx, Pv (i + 1)⟩ (σ'.set j (some (.int (lo + (i : Nat) * c)))) H') (hd : ∀ σ' H', Pv n σ' H' → nx σ' H') : LoopC lo c n j tb ⟨nx, rt, bk, ct⟩ σ H :=
  for_rangeC (g := gName j) Pv h0 hs hd
theorem r_loopL {a : Addr} {xs : List V} {j : Nat} {tb : TS} (Pv : Nat → L2.St → Hp → Prop) (h0 : Pv 0 σ H) (hl : ∀ i σ' H', i ≤ xs.length → Pv i σ' H' → SqL K H' a xs)
    (hs : ∀ i x σ' H', xs[i]? = some x → Pv i σ' H' → tb ⟨Pv (i + 1), rt, nx, Pv (i + 1)⟩ (σ'.set j (some x)) H') (hd : ∀ σ' H', Pv xs.length σ' H' → nx σ' H') : LoopL K a j tb ⟨nx, rt, bk, ct⟩ σ H :=
  for_list (g := gName j) Pv h0 hl hs hd
theorem nth_int {ns : List Int} {i : Nat} {x : V} (h : (ns.map V.int)[i]? = some x) : ∃ z, ns[i]? = some z ∧ x = .int z := by
  rw [List.getElem?_map] at h
  cases e : ns[i]? with
  | none =>
    rw [e] at h
    cases h
  | some z =>
    rw [e] at h
    exact ⟨z, rfl, (Option.some.inj h).symm⟩
theorem r_loopI {a : Addr} {ns : List Int} {j : Nat} {tb : TS} (Pv : Nat → L2.St → Hp → Prop) (h0 : Pv 0 σ H) (hl : ∀ i σ' H', i ≤ ns.length → Pv i σ' H' → SqL K H' a (ns.map V.int))
    (hs : ∀ i z σ' H', ns[i]? = some z → Pv i σ' H' → tb ⟨Pv (i + 1), rt, nx, Pv (i + 1)⟩ (σ'.set j (some (.int z))) H') (hd : ∀ σ' H', Pv ns.length σ' H' → nx σ' H') : LoopL K a j tb ⟨nx, rt, bk, ct⟩ σ H :=
  r_loopL (xs := ns.map V.int) Pv h0 (fun i σ' H' hi => hl i σ' H' (by rw [List.length_map] at hi; exact hi)) (fun i x σ' H' hi hp => by
    obtain ⟨z, hz, rfl⟩ := nth_int hi
    exact hs i z σ' H' hz hp) (fun σ' H' hp => hd σ' H' (by rw [List.length_map] at hp; exact hp))
theorem r_while (W : Nat → L2.St → Hp → Prop) (m0 : Nat) (h0 : W m0 σ H)
    (hs : ∀ m σ' H', W m σ' H' → tt σ' H' fun b H1 => if b = true then ∃ N : L2.St → Hp → Prop, (∀ σ2 H2, N σ2 H2 → ∃ m', m' < m ∧ W m' σ2 H2) ∧ t ⟨N, rt, nx, N⟩ σ' H1 else nx σ' H1) : tWhile tt t ⟨nx, rt, bk, ct⟩ σ H :=
  ⟨W, ⟨m0, h0⟩, hs⟩
theorem r_wh {W : Nat → L2.St → Hp → Prop} {m : Nat} (h : t ⟨fun σ2 H2 => ∃ m', m' < m ∧ W m' σ2 H2, rt, nx, fun σ2 H2 => ∃ m', m' < m ∧ W m' σ2 H2⟩ σ H) :
    ∃ N : L2.St → Hp → Prop, (∀ σ2 H2, N σ2 H2 → ∃ m', m' < m ∧ W m' σ2 H2) ∧ t ⟨N, rt, nx, N⟩ σ H := ⟨_, fun _ _ h => h, h⟩
theorem r_rg1 {N : Int → Int → Hp → Prop} (h : ta σ H fun x H1 => ∃ n, x = .int n ∧ N 0 n H1) : tRg1 ta σ H N := h
theorem r_rg2 {N : Int → Int → Hp → Prop} (h : ta σ H fun x H1 => tb σ H1 fun y H2 => ∃ i j, x = .int i ∧ y = .int j ∧ N i j H2) : tRg2 ta tb σ H N := h
theorem r_ij {i j : Int} {N : Int → Int → Prop} (h : N i j) : ∃ a b, V.int i = V.int a ∧ V.int j = V.int b ∧ N a b := ⟨i, j, rfl, rfl, h⟩
theorem r_rngC {i j : Int} {N : Prop} (h : -1000000 ≤ i ∧ i ≤ 1000000 ∧ -1000000 ≤ j ∧ j ≤ 1000000) (q : N) : -(2 ^ 62) ≤ i ∧ i < 2 ^ 62 ∧ -(2 ^ 62) ≤ j ∧ j < 2 ^ 62 ∧ N := ⟨by omega, by omega, by omega, by omega, q⟩
theorem r_index1 {a : Addr} {ns : List Int} {y : Int} {j : Nat} (h : SqL K H a (ns.map V.int)) (hj : ns[j]? = some y) (hno : ∀ m : Nat, m < j → ns[m]? ≠ some y) (q : Q (.int (j : Nat)) H) : rIndex K (.ref a) [.int y] H Q := by
  refine ⟨a, ns.map V.int, .int y, j, .int y, rfl, rfl, h, rfl, by rw [List.all_map]; exact List.all_eq_true.mpr fun _ _ => rfl, by rw [List.getElem?_map, hj] <;> rfl, ?_, fun m z hm hz => ?_, q⟩
  · show (y == y) = true
    exact beq_self_eq_true y
  · rw [List.getElem?_map] at hz
    cases e : ns[m]? with
    | none =>
      rw [e] at hz
      cases hz
    | some x =>
      rw [e] at hz
      obtain rfl := Option.some.inj hz
      show (x == y) = false
      exact beq_eq_false_iff_ne.mpr fun z => hno m hm (by rw [e, z])
def LoopT (K : PySem.W.Frag) (a : Addr) (j : Nat) (tb : TS) : TS := fun D σ H => ∃ W : Nat → Nat → L2.St → Hp → Prop, (∃ m, W 0 m σ H) ∧ ∀ i m σ H, W i m σ H →
  ((Itt K a).stop i H ∧ D.nx σ H) ∨ ((Itt K a).go i H ∧ ∃ N : L2.St → Hp → Prop, (∀ σ' H', N σ' H' → ∃ m', m' < m ∧ W (i + 1) m' σ' H') ∧ ∀ x H', (Itt K a).yld i H x H' → gName j x σ H' fun σ2 H2 => tb ⟨N, D.rt, D.nx, N⟩ σ2 H2)
theorem r_forT {j : Nat} {tb : TS} (h : te σ H fun x H1 => ∃ a, x = .ref a ∧ (∃ xs, SqT K H1 a xs) ∧ LoopT K a j tb ⟨nx, rt, bk, ct⟩ σ H1) : tFor (iTup K te) (gName j) tb ⟨nx, rt, bk, ct⟩ σ H := h
theorem r_itT {a : Addr} {xs : List V} {N : Addr → Prop} (h : SqT K H a xs) (q : N a) : ∃ b, V.ref a = .ref b ∧ (∃ xs, SqT K H b xs) ∧ N b := ⟨a, rfl, ⟨xs, h⟩, q⟩
theorem r_loopT {a : Addr} {xs : List V} {j : Nat} {tb : TS} (Pv : Nat → L2.St → Hp → Prop) (h0 : Pv 0 σ H) (hl : ∀ i σ' H', i ≤ xs.length → Pv i σ' H' → SqT K H' a xs)
    (hs : ∀ i x σ' H', xs[i]? = some x → Pv i σ' H' → tb ⟨Pv (i + 1), rt, nx, Pv (i + 1)⟩ (σ'.set j (some x)) H') (hd : ∀ σ' H', Pv xs.length σ' H' → nx σ' H') : LoopT K a j tb ⟨nx, rt, bk, ct⟩ σ H :=
  for_tup (g := gName j) Pv h0 hl hs hd
/-! comprehensions -/
def LcL (K : PySem.W.Frag) (a : Addr) (j : Nat) (tt : TT) (te : TE) (vs : List Nat) : TE := fun σ H Q => ∀ D, H D = none → ∃ W : Nat → Nat → Hp → Prop, (∃ m, W 0 m (upd H D (.lst []))) ∧ ∀ i m H, W i m H →
  ((Itl K a).stop i H ∧ Q (.ref D) H) ∨ ((Itl K a).go i H ∧ ∃ Nx : Hp → Prop, (∀ H', Nx H' → ∃ m', m' < m ∧ W (i + 1) m' H') ∧ ∀ x H', (Itl K a).yld i H x H' → gName j x (wipe σ vs) H' fun σ2 H2 => wipe σ2 vs = wipe σ vs ∧ tt σ2 H2 fun b H3 =>
    if b = true then te σ2 H3 fun y H4 => ∃ acc, H4 D = some (.lst acc) ∧ acc.length < sizeLine ∧ Nx (upd H4 D (.lst (acc ++ [y]))) else Nx H3)
def LcR (lo : Int) (n j : Nat) (tt : TT) (te : TE) (vs : List Nat) : TE := fun σ H Q => ∀ D, H D = none → ∃ W : Nat → Nat → Hp → Prop, (∃ m, W 0 m (upd H D (.lst []))) ∧ ∀ i m H, W i m H →
  ((Itr lo n).stop i H ∧ Q (.ref D) H) ∨ ((Itr lo n).go i H ∧ ∃ Nx : Hp → Prop, (∀ H', Nx H' → ∃ m', m' < m ∧ W (i + 1) m' H') ∧ ∀ x H', (Itr lo n).yld i H x H' → gName j x (wipe σ vs) H' fun σ2 H2 => wipe σ2 vs = wipe σ vs ∧ tt σ2 H2 fun b H3 =>
    if b = true then te σ2 H3 fun y H4 => ∃ acc, H4 D = some (.lst acc) ∧ acc.length < sizeLine ∧ Nx (upd H4 D (.lst (acc ++ [y]))) else Nx H3)
theorem r_lc1 {tr : TA} {j : Nat} {vs : List Nat} (h : tr σ H fun ws H1 => ∃ n : Int, ws = [.int n] ∧ -(2 ^ 62) ≤ n ∧ n < 2 ^ 62 ∧ LcR 0 n.toNat j tt te vs σ H1 Q) : tLc (iRng1 tr) (gName j) tt te vs σ H Q := h
theorem r_lc2 {tr : TA} {j : Nat} {vs : List Nat} (h : tr σ H fun ws H1 => ∃ m n : Int, ws = [.int m, .int n] ∧ (-(2 ^ 62) ≤ m ∧ m < 2 ^ 62 ∧ -(2 ^ 62) ≤ n ∧ n < 2 ^ 62) ∧ LcR m (n - m).toNat j tt te vs σ H1 Q) : tLc (iRng2 tr) (gName j) tt te vs σ H Q := h
theorem r_lcL {j : Nat} {vs : List Nat} (h : ta σ H fun x H1 => ∃ a, x = .ref a ∧ (∃ xs, SqL K H1 a xs) ∧ LcL K a j tt te vs σ H1 Q) : tLc (iList K ta) (gName j) tt te vs σ H Q := h
theorem r_yes {N : Bool → Hp → Prop} (h : N true H) : tYes σ H N := h
theorem r_LcL {a : Addr} {xs : List V} {j : Nat} {vs : List Nat} (hx : SqL K H a xs) (acc : Nat → List V) (h0 : acc 0 = []) (hz : ∀ i, i ≤ xs.length → (acc i).length ≤ 100000) (hw : ∀ x, wipe ((wipe σ vs).set j (some x)) vs = wipe σ vs)
    (hs : ∀ i x H' (N : VK) (Z : Hp → Prop), xs[i]? = some x → Same H H' → (∀ y H4, Same H' H4 → acc (i + 1) = acc i ++ [y] → N y H4) → (∀ H3, Same H' H3 → acc (i + 1) = acc i → Z H3) →
      tt ((wipe σ vs).set j (some x)) H' fun b H3 => if b = true then te ((wipe σ vs).set j (some x)) H3 N else Z H3)
    (hd : ∀ p H', H p = none → Same H H' → H' p = some (.lst (acc xs.length)) → Q (.ref p) H') : LcL K a j tt te vs σ H Q := by
  intro p np
  refine lc_list (g := gName j) (xs := xs) (fun i H' => i ≤ xs.length ∧ Same H H' ∧ H' p = some (.lst (acc i))) ⟨Nat.zero_le _, same_new np _, by rw [h0]; exact upd_same⟩ (fun i H' _ q => q.2.1.seq hx) (fun i x H' hi q => ?_) (fun H' q => hd p H' np q.2.1 q.2.2)
  obtain ⟨_, s, e⟩ := q
  have hil : i < xs.length := (List.getElem?_eq_some_iff.mp hi).1
  refine ⟨hw x, hs i x H' _ _ hi s (fun y H4 s4 e4 => ?_) fun H3 s3 e3 => ?_⟩
  · refine ⟨acc i, s4 _ _ e, Nat.lt_of_le_of_lt (hz i (Nat.le_of_lt hil)) (by decide), hil, ?_, ?_⟩
    · exact same_mut (s.trans s4) np
    · rw [e4]
      exact upd_same
  · exact ⟨hil, s.trans s3, by rw [e3]; exact s3 _ _ e⟩
theorem r_LcR {lo : Int} {n : Nat} {j : Nat} {vs : List Nat} (acc : Nat → List V) (h0 : acc 0 = []) (hz : ∀ i, i ≤ n → (acc i).length ≤ 100000) (hw : ∀ x, wipe ((wipe σ vs).set j (some x)) vs = wipe σ vs)
    (hs : ∀ i H' (N : VK) (Z : Hp → Prop), i < n → Same H H' → (∀ y H4, Same H' H4 → acc (i + 1) = acc i ++ [y] → N y H4) → (∀ H3, Same H' H3 → acc (i + 1) = acc i → Z H3) →
      tt ((wipe σ vs).set j (some (.int (lo + (i : Int))))) H' fun b H3 => if b = true then te ((wipe σ vs).set j (some (.int (lo + (i : Int))))) H3 N else Z H3)
    (hd : ∀ p H', H p = none → Same H H' → H' p = some (.lst (acc n)) → Q (.ref p) H') : LcR lo n j tt te vs σ H Q := by
  intro p np
  refine lc_range (g := gName j) (fun i H' => i ≤ n ∧ Same H H' ∧ H' p = some (.lst (acc i))) ⟨Nat.zero_le _, same_new np _, by rw [h0]; exact upd_same⟩ (fun i H' hi q => ?_) (fun H' q => hd p H' np q.2.1 q.2.2)
  obtain ⟨_, s, e⟩ := q
  refine ⟨hw _, hs i H' _ _ hi s (fun y H4 s4 e4 => ?_) fun H3 s3 e3 => ?_⟩
  · refine ⟨acc i, s4 _ _ e, Nat.lt_of_le_of_lt (hz i (Nat.le_of_lt hi)) (by decide), hi, ?_, ?_⟩
    · exact same_mut (s.trans s4) np
    · rw [e4]
      exact upd_same
  · exact ⟨hi, s.trans s3, by rw [e3]; exact s3 _ _ e⟩
theorem r_LcR0 {n : Nat} {j : Nat} {vs : List Nat} (acc : Nat → List V) (h0 : acc 0 = []) (hz : ∀ i, i ≤ n → (acc i).length ≤ 100000) (hw : ∀ x, wipe ((wipe σ vs).set j (some x)) vs = wipe σ vs)
    (hs : ∀ i H' (N : VK) (Z : Hp → Prop), i < n → Same H H' → (∀ y H4, Same H' H4 → acc (i + 1) = acc i ++ [y] → N y H4) → (∀ H3, Same H' H3 → acc (i + 1) = acc i → Z H3) →
      tt ((wipe σ vs).set j (some (.int (i : Int)))) H' fun b H3 => if b = true then te ((wipe σ vs).set j (some (.int (i : Int)))) H3 N else Z H3)
    (hd : ∀ p H', H p = none → Same H H' → H' p = some (.lst (acc n)) → Q (.ref p) H') : LcR 0 n j tt te vs σ H Q :=
  r_LcR acc h0 hz hw (fun i H' N Z hi s hN hZ => by
    have e : (0 : Int) + (i : Int) = (i : Int) := Int.zero_add _
    rw [e]
    exact hs i H' N Z hi s hN hZ) hd
/-- maps and filters, by how far one is -/
def mapAcc (f : V → V) (xs : List V) (i : Nat) : List V := (xs.take i).map f
theorem take_more {α : Type} : ∀ {l : List α} {i : Nat} {x : α}, l[i]? = some x → l.take (i + 1) = l.take i ++ [x]
  | [], i, x, h => by simp at h
  | a :: l, 0, x, h => by
    have e : a = x := Option.some.inj h
    subst e
    rfl
  | a :: l, i + 1, x, h => by
    have ih := take_more (l := l) (i := i) (x := x) h
    show a :: l.take (i + 1) = a :: l.take i ++ [x]
    rw [ih]
    rfl
end
theorem getD_at' {ns : List Int} {k : Nat} (h : k < ns.length) : ns[k]? = some (ns.getD k 0) := by
  rw [List.getD_eq_getElem?_getD, List.getElem?_eq_getElem h]
  rfl
theorem ix_nat {n : Nat} {i : Int} (h0 : 0 ≤ i) (h1 : i < (n : Int)) : ixN n i = some i.toNat := by
  unfold ixN
  rw [if_pos h0, if_pos h1]
theorem map_set (ns : List Int) (j : Nat) (z : Int) : (ns.map V.int).set j (.int z) = (ns.set j z).map V.int := by
  rw [List.map_set]
theorem r_setL {o : Addr} {i z : Int} {ns : List Int} {H : Hp} {Q : Hp → Prop} (h : H o = some (.lst (ns.map V.int))) (h0 : 0 ≤ i) (h1 : i < (ns.length : Int)) (q : Q (upd H o (.lst ((ns.set i.toNat z).map V.int)))) : rSetL (.ref o) (.int i) (.int z) H Q := by
  refine ⟨o, ns.map V.int, i, i.toNat, rfl, rfl, h, ?_, ?_⟩
  · rw [List.length_map]
    exact ix_nat h0 h1
  · rw [map_set]
    exact q
theorem rep_flat {n : Int} {x : V} : (List.replicate n.toNat [x]).flatten = List.replicate n.toNat x := by
  generalize n.toNat = k
  induction k with
  | zero => rfl
  | succ k ih =>
    rw [List.replicate_succ, List.flatten_cons, ih, List.replicate_succ]
    rfl
theorem r_rep {l : Addr} {k : Int} {x : V} {H : Hp} {Q : VK} (h : H l = some (.lst [x])) (h0 : -1000000 ≤ k) (h1 : k ≤ 1000000) (q : ∀ p, H p = none → Q (.ref p) (upd H p (.lst (List.replicate k.toNat x)))) : rRep (.ref l) (.int k) H Q := by
  refine ⟨l, k, [x], rfl, rfl, h, by omega, by omega, sz (by rw [List.length_singleton]; omega), fun p np => ?_⟩
  rw [rep_flat]
  exact q p np
theorem r_setV {o : Addr} {i : Int} {z : V} {xs : List V} {H : Hp} {Q : Hp → Prop} (h : H o = some (.lst xs)) (h0 : 0 ≤ i) (h1 : i < (xs.length : Int)) (q : Q (upd H o (.lst (xs.set i.toNat z)))) : rSetL (.ref o) (.int i) z H Q :=
  ⟨o, xs, i, i.toNat, rfl, rfl, h, by unfold ixN; rw [if_pos h0, if_pos h1], q⟩
theorem natmap_len (pl : List Nat) : (pl.map fun (n : Nat) => V.int (n : Int)).length = pl.length := List.length_map _
theorem pile_last {K : PySem.W.Frag} {pl : List Nat} {t : Nat} {H : Hp} {a : Addr} {Q : VK} (h : H a = some (.lst ((pl ++ [t]).map fun (n : Nat) => V.int (n : Int)))) (q : Q (.int (t : Int)) H) : rIxL K (.ref a) (.int (-1)) H Q := by
  refine r_ixL (VT.SqL.lst h) ?_ q
  rw [List.map_append]
  exact atI_last _ _
theorem r_popN {pl : List Nat} {t : Nat} {H : Hp} {a : Addr} {Q : VK} (h : H a = some (.lst ((pl ++ [t]).map fun (n : Nat) => V.int (n : Int)))) (q : Q (.int (t : Int)) (upd H a (.lst (pl.map fun (n : Nat) => V.int (n : Int))))) : rPop (.ref a) [] H Q := by
  refine ⟨a, _, .int (t : Int), rfl, rfl, h, ?_, ?_⟩
  · rw [List.map_append, List.length_append, List.length_map, List.length_map, List.length_singleton, Nat.add_sub_cancel, List.getElem?_append_right (by rw [List.length_map]; exact Nat.le_refl _), List.length_map, Nat.sub_self] <;> rfl
  · rw [List.map_append]
    show Q (.int (t : Int)) (upd H a (.lst ((pl.map fun (n : Nat) => V.int (n : Int)) ++ [V.int (t : Int)]).dropLast))
    rw [List.dropLast_concat]
    exact q
theorem pile_push (pl : List Nat) (k : Nat) : (pl.map fun (n : Nat) => V.int (n : Int)) ++ [V.int (k : Int)] = (pl ++ [k]).map fun (n : Nat) => V.int (n : Int) := by
  rw [List.map_append] <;> rfl
theorem concat_of {α : Type} {l : List α} (h : l ≠ []) : ∃ r t, l = r ++ [t] := ⟨l.dropLast, l.getLast h, (List.dropLast_concat_getLast h).symm⟩
theorem r_popV {l : Addr} {xs : List V} {y : V} {H : Hp} {Q : VK} (h : H l = some (.lst (xs ++ [y]))) (q : Q y (upd H l (.lst xs))) : rPop (.ref l) [] H Q := by
  refine ⟨l, xs ++ [y], y, rfl, rfl, h, ?_, ?_⟩
  · rw [List.length_append, List.length_singleton, Nat.add_sub_cancel, List.getElem?_append_right (Nat.le_refl _), Nat.sub_self] <;> rfl
  · rw [List.dropLast_concat]
    exact q
theorem r_tup3 {K : PySem.W.Frag} {σ : L2.St} {H : Hp} {a : Addr} {i j k : Nat} {x y z : V} {N : L2.St → Hp → Prop} (h : SqT K H a [x, y, z]) (q : N (((σ.set i (some x)).set j (some y)).set k (some z)) H) : gTup K 3 (gCons (gName i) (gCons (gName j) (gCons (gName k) gNil))) (.ref a) σ H N :=
  ⟨a, [x, y, z], rfl, h, rfl, x, [y, z], rfl, y, [z], rfl, z, [], rfl, rfl, q⟩
theorem r_tup2 {K : PySem.W.Frag} {σ : L2.St} {H : Hp} {a : Addr} {i j : Nat} {x y : V} {N : L2.St → Hp → Prop} (h : SqT K H a [x, y]) (q : N ((σ.set i (some x)).set j (some y)) H) : gTup K 2 (gCons (gName i) (gCons (gName j) gNil)) (.ref a) σ H N :=
  ⟨a, [x, y], rfl, h, rfl, x, [y], rfl, y, [], rfl, rfl, q⟩
theorem r_in {K : PySem.W.Frag} {p : Addr} {x : V} {xs : List V} {H : Hp} {Q : VK} (h : SqL K H p xs) (f1 : flatV x = true) (f2 : xs.all flatV = true) (q : Q (.bl (inV x xs)) H) : rIn K false x (.ref p) H Q := ⟨p, xs, rfl, .inl h, f1, f2, q⟩
theorem inV_nat {ys : List Nat} {x : Nat} : inV (.int (x : Int)) (ys.map fun (n : Nat) => V.int (n : Int)) = decide (x ∈ ys) := by
  unfold inV
  induction ys with
  | nil => rfl
  | cons y ys ih =>
    rw [List.map_cons, List.any_cons, ih]
    show (((y : Int) == (x : Int)) || decide (x ∈ ys)) = decide (x ∈ y :: ys)
    by_cases e : y = x
    · subst e
      simp
    · have e1 : ((y : Int) == (x : Int)) = false := beq_eq_false_iff_ne.mpr (by omega)
      have e2 : x ≠ y := fun z => e z.symm
      rw [e1]
      simp [e2]
theorem flat_nat {ys : List Nat} : (ys.map fun (n : Nat) => V.int (n : Int)).all flatV = true := by
  rw [List.all_map]
  exact List.all_eq_true.mpr fun _ _ => rfl
theorem SqL.keep {K : PySem.W.Frag} {H H' : Hp} {a : Addr} {xs : List V} (h : SqL K H a xs) (e : ∀ o, H a = some o → H' a = some o) : SqL K H' a xs := by
  rcases h with (h | ⟨o, h⟩) | h
  · exact .inl (.inl (e _ h))
  · exact .inl (.inr ⟨o, e _ h⟩)
  · exact .inr h
def lcScope : Stmt → Scope
  | .Assign _ (.ListComp _ _ sc _) _ => sc
  | _ => default
theorem ifE_join {σ : L2.St} {H : Hp} {Q : VK} {p : Prop} [Decidable p] {ta tb : TE} (M : V → Hp → Prop) (k : ∀ v H', M v H' → Q v H') (hA : p → (∀ v H', M v H' → Q v H') → ta σ H Q) (hB : ¬ p → (∀ v H', M v H' → Q v H') → tb σ H Q) : if decide p = true then ta σ H Q else tb σ H Q :=
  brD (fun c => hA c k) (fun c => hB c k)
theorem But.same' {D : Addr} {H H' : Hp} {o : HO} (e : Same H H') : But D H (upd H' D o) := (But.of e).up
/-- a comprehension whose items stand in the heap -/
theorem r_LcLP {K : PySem.W.Frag} {σ : L2.St} {H : Hp} {Q : VK} {tt : TT} {te : TE} {a : Addr} {xs : List V} {j : Nat} {vs : List Nat} (hx : SqL K H a xs) (P : Addr → Nat → List V → Hp → Prop) (h0 : ∀ D H1, H D = none → P D 0 [] H1)
    (mono : ∀ D i acc H1 H2, But D H1 H2 → P D i acc H1 → P D i acc H2) (hz : ∀ D i acc H1, i ≤ xs.length → P D i acc H1 → acc.length ≤ 100000) (hw : ∀ x, wipe ((wipe σ vs).set j (some x)) vs = wipe σ vs)
    (hs : ∀ D i x H' acc (N : VK) (Z : Hp → Prop), H D = none → xs[i]? = some x → Same H H' → H' D = some (.lst acc) → P D i acc H' → (∀ y H4, Same H' H4 → P D (i + 1) (acc ++ [y]) H4 → N y H4) → (∀ H3, Same H' H3 → P D (i + 1) acc H3 → Z H3) →
      tt ((wipe σ vs).set j (some x)) H' fun b H3 => if b = true then te ((wipe σ vs).set j (some x)) H3 N else Z H3)
    (hd : ∀ D H' acc, H D = none → Same H H' → H' D = some (.lst acc) → P D xs.length acc H' → Q (.ref D) H') : LcL K a j tt te vs σ H Q := by
  intro p np
  refine lc_list (g := gName j) (xs := xs) (fun i H' => i ≤ xs.length ∧ Same H H' ∧ ∃ acc, H' p = some (.lst acc) ∧ P p i acc H') ⟨Nat.zero_le _, same_new np _, [], upd_same, h0 _ _ np⟩ (fun i H' _ q => q.2.1.seq hx) (fun i x H' hi q => ?_) (fun H' q => ?_)
  · obtain ⟨_, s, acc, e, hP⟩ := q
    have hil : i < xs.length := (List.getElem?_eq_some_iff.mp hi).1
    refine ⟨hw x, hs p i x H' acc _ _ np hi s e hP (fun y H4 s4 p4 => ?_) fun H3 s3 p3 => ?_⟩
    · refine ⟨acc, s4 _ _ e, Nat.lt_of_le_of_lt (hz _ _ _ _ (Nat.le_of_lt hil) hP) (by decide), hil, same_mut (s.trans s4) np, _, upd_same, ?_⟩
      exact mono p (i + 1) _ H4 _ ((But.of (Same.refl _)).up) p4
    · exact ⟨hil, s.trans s3, acc, s3 _ _ e, p3⟩
  · obtain ⟨_, s, acc, e, hP⟩ := q
    exact hd p H' acc np s e hP
theorem fnOk_no {P : Program} {w : World} {K : PySem.W.Frag} {mg : Str → Option Value} {base : Heap} {CX : CXT} {k : Nat} {f : Addr} {fd : FuncData} {ps : List Str} {sp : Sp} (h : ∀ vs H Q E, ¬ sp vs H Q E) : FnOk P w K mg base CX k f fd ps sp :=
  ⟨fun vs H Q E z => absurd z (h vs H Q E), fun A outer s H args us vs Q E _ _ _ _ z => absurd z (h vs H Q E)⟩
end VT
/-! ### the least of a stretch -/
namespace VT
/-- of the places from i to j the first with the least number is at, the number m -/
structure IsLeast (ns : List Int) (i j : Nat) (m : Int) (at' : Nat) : Prop where
  lo : i ≤ at'
  hi : at' < j
  val : ns[at']? = some m
  le : ∀ k x, i ≤ k → k < j → ns[k]? = some x → m ≤ x
  fst : ∀ k x, i ≤ k → k < at' → ns[k]? = some x → m < x
theorem IsLeast.uniq {ns : List Int} {i j : Nat} {m m' : Int} {a a' : Nat} (h : IsLeast ns i j m a) (h' : IsLeast ns i j m' a') : m = m' ∧ a = a' := by
  have e : m = m' := by
    have h1 := h.le a' m' h'.lo h'.hi h'.val
    have h2 := h'.le a m h.lo h.hi h.val
    omega
  refine ⟨e, ?_⟩
  subst e
  rcases Nat.lt_trichotomy a a' with c | c | c
  · have := h'.fst a m h.lo c h.val
    omega
  · exact c
  · have := h.fst a' m h'.lo c h'.val
    omega
theorem first_at {ns : List Int} {i : Nat} {m : Int} : ∀ (k : Nat), i ≤ k → ns[k]? = some m → ∃ j, i ≤ j ∧ j ≤ k ∧ ns[j]? = some m ∧ ∀ l, i ≤ l → l < j → ns[l]? ≠ some m := by
  intro k
  induction k using Nat.strongRecOn with
  | _ k ih =>
    intro h1 h2
    by_cases h : ∃ l, i ≤ l ∧ l < k ∧ ns[l]? = some m
    · obtain ⟨l, a, b, c⟩ := h
      obtain ⟨j, j1, j2, j3, j4⟩ := ih l b a c
      exact ⟨j, j1, by omega, j3, j4⟩
    · exact ⟨k, h1, Nat.le_refl _, h2, fun l a b c => h ⟨l, a, b, c⟩⟩
theorem slice_get {ns : List Int} {i j : Nat} {k : Nat} : ((ns.drop i).take (j - i))[k]? = if k < j - i then ns[i + k]? else none := by
  rw [List.getElem?_take]
  split
  · rw [List.getElem?_drop]
  · rfl
theorem mem_slice {ns : List Int} {i j : Nat} {m : Int} (h : m ∈ (ns.drop i).take (j - i)) : ∃ k, i ≤ k ∧ k < j ∧ ns[k]? = some m := by
  obtain ⟨k, hk⟩ := List.mem_iff_getElem?.mp h
  rw [slice_get] at hk
  split at hk
  · exact ⟨i + k, by omega, by omega, hk⟩
  · cases hk
theorem in_slice {ns : List Int} {i j k : Nat} {x : Int} (h1 : i ≤ k) (h2 : k < j) (h : ns[k]? = some x) : x ∈ (ns.drop i).take (j - i) := by
  refine List.mem_iff_getElem?.mpr ⟨k - i, ?_⟩
  rw [slice_get, if_pos (by omega)]
  have e : i + (k - i) = k := by omega
  rw [e]
  exact h
/-- from the least of the slice's numbers to the place -/
theorem least_of_min {ns : List Int} {i j : Nat} {m : Int} (hm : m ∈ (ns.drop i).take (j - i)) (hle : ∀ x, x ∈ (ns.drop i).take (j - i) → m ≤ x) : ∃ at', IsLeast ns i j m at' ∧ ∀ l, i ≤ l → l < at' → ns[l]? ≠ some m := by
  obtain ⟨k, k1, k2, k3⟩ := mem_slice hm
  obtain ⟨a, a1, a2, a3, a4⟩ := first_at k k1 k3
  refine ⟨a, ⟨a1, by omega, a3, fun k' x h1 h2 h3 => hle x (in_slice h1 h2 h3), fun k' x h1 h2 h3 => ?_⟩, a4⟩
  have h4 := hle x (in_slice h1 (by omega) h3)
  have h5 : x ≠ m := fun e => a4 k' h1 h2 (by rw [h3, e])
  omega
theorem IsLeast.one {ns : List Int} {i : Nat} {m : Int} (h : ns[i]? = some m) : IsLeast ns i (i + 1) m i :=
  ⟨Nat.le_refl _, Nat.lt_succ_self _, h, fun k x h1 h2 h3 => by
    have e : k = i := by omega
    rw [e, h] at h3
    exact Int.le_of_eq (Option.some.inj h3), fun k x h1 h2 _ => by omega⟩
theorem IsLeast.less {ns : List Int} {i j : Nat} {m x : Int} {a : Nat} (h : IsLeast ns i j m a) (hx : ns[j]? = some x) (hl : x < m) : IsLeast ns i (j + 1) x j :=
  ⟨by have := h.lo; have := h.hi; omega, Nat.lt_succ_self _, hx, fun k y h1 h2 h3 => by
    by_cases e : k = j
    · rw [e, hx] at h3
      exact Int.le_of_eq (Option.some.inj h3)
    · have := h.le k y h1 (by omega) h3
      omega, fun k y h1 h2 h3 => by
    have := h.le k y h1 h2 h3
    omega⟩
theorem IsLeast.more {ns : List Int} {i j : Nat} {m x : Int} {a : Nat} (h : IsLeast ns i j m a) (hx : ns[j]? = some x) (hl : ¬ x < m) : IsLeast ns i (j + 1) m a :=
  ⟨h.lo, by have := h.hi; omega, h.val, fun k y h1 h2 h3 => by
    by_cases e : k = j
    · rw [e, hx] at h3
      have := Option.some.inj h3
      omega
    · exact h.le k y h1 (by omega) h3, h.fst⟩
end VT
/-! ### nearest lesser ones -/
namespace VT
open L2
def filtAcc (P : Nat → Bool) (f : Nat → V) (i : Nat) : List V := ((List.range i).filter P).map f
theorem filtAcc_yes {P : Nat → Bool} {f : Nat → V} {i : Nat} (h : P i = true) : filtAcc P f (i + 1) = filtAcc P f i ++ [f i] := by
  unfold filtAcc
  rw [List.range_succ, List.filter_append, List.map_append, List.filter_cons, if_pos h]
  rfl
theorem filtAcc_no {P : Nat → Bool} {f : Nat → V} {i : Nat} (h : P i = false) : filtAcc P f (i + 1) = filtAcc P f i := by
  unfold filtAcc
  rw [List.range_succ, List.filter_append, List.map_append, List.filter_cons, if_neg (by rw [h]; exact Bool.false_ne_true)]
  exact List.append_nil _
theorem filtAcc_len (P : Nat → Bool) (f : Nat → V) (i : Nat) : (filtAcc P f i).length ≤ i := by
  unfold filtAcc
  rw [List.length_map]
  have h := List.length_filter_le P (List.range i)
  rw [List.length_range] at h
  exact h
/-- the last, the first of the first m numbers with P -/
def lastP (P : Nat → Bool) : Nat → Option Nat
  | 0 => none
  | m + 1 => if P m = true then some m else lastP P m
def firstP (P : Nat → Bool) : Nat → Option Nat
  | 0 => none
  | m + 1 => match firstP P m with
    | some j => some j
    | none => if P m = true then some m else none
theorem filt_last (P : Nat → Bool) (f : Nat → V) : ∀ m : Nat, (filtAcc P f m).getLast? = (lastP P m).map f
  | 0 => rfl
  | m + 1 => by
    unfold lastP
    cases h : P m with
    | true =>
      rw [filtAcc_yes h, if_pos rfl, List.getLast?_concat]
      rfl
    | false =>
      rw [filtAcc_no h, if_neg Bool.false_ne_true]
      exact filt_last P f m
theorem filt_first (P : Nat → Bool) (f : Nat → V) : ∀ m : Nat, (filtAcc P f m).head? = (firstP P m).map f
  | 0 => rfl
  | m + 1 => by
    have ih := filt_first P f m
    unfold firstP
    cases e : firstP P m with
    | some j =>
      rw [e] at ih
      have g : ∃ r, filtAcc P f m = f j :: r := by
        cases q : filtAcc P f m with
        | nil =>
          rw [q] at ih
          cases ih
        | cons x r =>
          rw [q] at ih
          exact ⟨r, by rw [Option.some.inj ih]⟩
      obtain ⟨r, hr⟩ := g
      cases h : P m with
      | true =>
        rw [filtAcc_yes h, hr]
        rfl
      | false =>
        rw [filtAcc_no h, hr]
        rfl
    | none =>
      rw [e] at ih
      have g : filtAcc P f m = [] := by
        cases q : filtAcc P f m with
        | nil => rfl
        | cons x r =>
          rw [q] at ih
          cases ih
      cases h : P m with
      | true =>
        rw [filtAcc_yes h, g]
        rfl
      | false =>
        rw [filtAcc_no h, g]
        rfl
theorem lastP_some {P : Nat → Bool} {j : Nat} (hj : P j = true) : ∀ m : Nat, j < m → (∀ l, j < l → l < m → P l = false) → lastP P m = some j
  | 0, h, _ => absurd h (Nat.not_lt_zero _)
  | m + 1, h, ha => by
    unfold lastP
    by_cases e : j = m
    · rw [← e, if_pos hj]
    · rw [if_neg (by rw [ha m (by omega) (Nat.lt_succ_self _)]; exact Bool.false_ne_true)]
      exact lastP_some hj m (by omega) fun l h1 h2 => ha l h1 (by omega)
theorem lastP_none {P : Nat → Bool} : ∀ m : Nat, (∀ l, l < m → P l = false) → lastP P m = none
  | 0, _ => rfl
  | m + 1, ha => by
    unfold lastP
    rw [if_neg (by rw [ha m (Nat.lt_succ_self _)]; exact Bool.false_ne_true)]
    exact lastP_none m fun l h => ha l (by omega)
theorem firstP_none {P : Nat → Bool} : ∀ m : Nat, (∀ l, l < m → P l = false) → firstP P m = none
  | 0, _ => rfl
  | m + 1, ha => by
    unfold firstP
    rw [firstP_none m fun l h => ha l (by omega)]
    show (if P m = true then some m else none) = none
    rw [if_neg (by rw [ha m (Nat.lt_succ_self _)]; exact Bool.false_ne_true)]
theorem firstP_some {P : Nat → Bool} {j : Nat} (hj : P j = true) (ha : ∀ l, l < j → P l = false) : ∀ m : Nat, j < m → firstP P m = some j
  | 0, h => absurd h (Nat.not_lt_zero _)
  | m + 1, h => by
    unfold firstP
    by_cases e : j = m
    · rw [← e, firstP_none j ha]
      show (if P j = true then some j else none) = some j
      rw [if_pos hj]
    · rw [firstP_some hj ha m (by omega)]
def optV (o : Option Nat) : V := match o with
  | none => .non
  | some j => .int (j : Int)
/-- the nearest lesser one ahead of k, behind k -/
def lessA (ns : List Int) (k : Nat) : Nat → Bool := fun j => decide (ns.getD j 0 < ns.getD k 0)
def nearA (ns : List Int) (k : Nat) : Option Nat := lastP (lessA ns k) k
def lessB (ns : List Int) (k : Nat) : Nat → Bool := fun d => decide (ns.getD (k + 1 + d) 0 < ns.getD k 0)
def nearB (ns : List Int) (k : Nat) : Option Nat := (firstP (lessB ns k) (ns.length - (k + 1))).map fun d => k + 1 + d
theorem nearA_some {ns : List Int} {k j : Nat} (h : j < k) (hj : ns.getD j 0 < ns.getD k 0) (ha : ∀ l, j < l → l < k → ns.getD k 0 ≤ ns.getD l 0) : nearA ns k = some j :=
  lastP_some (decide_eq_true hj) k h fun l h1 h2 => decide_eq_false (by have := ha l h1 h2; omega)
theorem nearA_none {ns : List Int} {k : Nat} (ha : ∀ l, l < k → ns.getD k 0 ≤ ns.getD l 0) : nearA ns k = none :=
  lastP_none k fun l h => decide_eq_false (by have := ha l h; omega)
theorem nearB_some {ns : List Int} {k j : Nat} (h : k < j) (hn : j < ns.length) (hj : ns.getD j 0 < ns.getD k 0) (ha : ∀ l, k < l → l < j → ns.getD k 0 ≤ ns.getD l 0) : nearB ns k = some j := by
  unfold nearB
  have e : k + 1 + (j - (k + 1)) = j := by omega
  rw [firstP_some (P := lessB ns k) (j := j - (k + 1)) (decide_eq_true (by rw [e]; exact hj)) (fun l hl => decide_eq_false (by have := ha (k + 1 + l) (by omega) (by omega); omega)) _ (by omega)]
  show some (k + 1 + (j - (k + 1))) = some j
  rw [e]
theorem nearB_none {ns : List Int} {k : Nat} (ha : ∀ l, k < l → l < ns.length → ns.getD k 0 ≤ ns.getD l 0) : nearB ns k = none := by
  unfold nearB
  rw [firstP_none (P := lessB ns k) _ fun l hl => decide_eq_false (by have := ha (k + 1 + l) (by omega) (by omega); omega)]
  rfl
/-! the pile of lesser_ahead -/
structure PileW (ns : List Int) (k : Nat) (v : Option Int) (pl : List Nat) : Prop where
  inc : pl.Pairwise (· < ·)
  lt : ∀ p ∈ pl, p < k
  cov : ∀ l, l < k → l ∈ pl ∨ (∃ p ∈ pl, l < p ∧ ns.getD p 0 ≤ ns.getD l 0) ∨ ∃ x, v = some x ∧ x ≤ ns.getD l 0
theorem PileW.start {ns : List Int} : PileW ns 0 none [] := ⟨List.Pairwise.nil, fun _ h => (by cases h), fun l h => absurd h (Nat.not_lt_zero _)⟩
theorem PileW.begin {ns : List Int} {k : Nat} {pl : List Nat} (h : PileW ns k none pl) (v : Int) : PileW ns k (some v) pl := ⟨h.inc, h.lt, fun l hl => by
  rcases h.cov l hl with a | a | ⟨x, a, _⟩
  · exact .inl a
  · exact .inr (.inl a)
  · cases a⟩
theorem PileW.pop {ns : List Int} {k t : Nat} {v : Int} {pl : List Nat} (h : PileW ns k (some v) (pl ++ [t])) (hv : v ≤ ns.getD t 0) : PileW ns k (some v) pl := ⟨(List.pairwise_append.mp h.inc).1, fun p hp => h.lt p (List.mem_append_left _ hp), fun l hl => by
  rcases h.cov l hl with a | ⟨p, hp, h1, h2⟩ | a
  · rcases List.mem_append.mp a with b | b
    · exact .inl b
    · rw [List.mem_singleton.mp b]
      exact .inr (.inr ⟨v, rfl, hv⟩)
  · rcases List.mem_append.mp hp with b | b
    · exact .inr (.inl ⟨p, b, h1, h2⟩)
    · rw [List.mem_singleton.mp b] at h2
      exact .inr (.inr ⟨v, rfl, by omega⟩)
  · exact .inr (.inr a)⟩
theorem PileW.push {ns : List Int} {k : Nat} {pl : List Nat} (h : PileW ns k (some (ns.getD k 0)) pl) : PileW ns (k + 1) none (pl ++ [k]) :=
  ⟨List.pairwise_append.mpr ⟨h.inc, List.pairwise_singleton _ _, fun a ha b hb => by
    rw [List.mem_singleton.mp hb]
    exact h.lt a ha⟩, fun p hp => by
    rcases List.mem_append.mp hp with b | b
    · have := h.lt p b
      omega
    · rw [List.mem_singleton.mp b]
      exact Nat.lt_succ_self _, fun l hl => by
    by_cases e : l = k
    · exact .inl (List.mem_append_right _ (List.mem_singleton.mpr e))
    · rcases h.cov l (by omega) with a | ⟨p, hp, h1, h2⟩ | ⟨x, hx, h1⟩
      · exact .inl (List.mem_append_left _ a)
      · exact .inr (.inl ⟨p, List.mem_append_left _ hp, h1, h2⟩)
      · have hx' := Option.some.inj hx
        exact .inr (.inl ⟨k, List.mem_append_right _ (List.mem_singleton.mpr rfl), by omega, by omega⟩)⟩
theorem PileW.top {ns : List Int} {k t : Nat} {pl : List Nat} (h : PileW ns k (some (ns.getD k 0)) (pl ++ [t])) (hv : ¬ ns.getD k 0 ≤ ns.getD t 0) : nearA ns k = some t := by
  have hin := List.pairwise_append.mp h.inc
  refine nearA_some (h.lt t (List.mem_append_right _ (List.mem_singleton.mpr rfl))) (by omega) fun l h1 h2 => ?_
  have small : ∀ p ∈ pl ++ [t], p ≤ t := fun p hp => by
    rcases List.mem_append.mp hp with b | b
    · exact Nat.le_of_lt (hin.2.2 p b t (List.mem_singleton.mpr rfl))
    · exact Nat.le_of_eq (List.mem_singleton.mp b)
  rcases h.cov l h2 with a | ⟨p, hp, h3, _⟩ | ⟨x, hx, h3⟩
  · have := small l a
    omega
  · have := small p hp
    omega
  · have hx' := Option.some.inj hx
    omega
theorem PileW.empty {ns : List Int} {k : Nat} (h : PileW ns k (some (ns.getD k 0)) []) : nearA ns k = none :=
  nearA_none fun l hl => by
    rcases h.cov l hl with a | ⟨p, hp, _⟩ | ⟨x, hx, h3⟩
    · cases a
    · cases hp
    · have hx' := Option.some.inj hx
      omega
/-! the pile of lesser_behind: up: how far the places are known -/
structure PileB (ns : List Int) (k : Nat) (fl : List V) (pl : List Nat) : Prop where
  len : fl.length = ns.length
  inc : pl.Pairwise (· < ·)
  lt : ∀ p ∈ pl, p < k
  open_ : ∀ p ∈ pl, fl[p]? = some .non ∧ ∀ m, p < m → m < k → ns.getD p 0 ≤ ns.getD m 0
  done : ∀ l, l < k → l ∉ pl → fl[l]? = some (optV (nearB ns l))
  late : ∀ l, k ≤ l → l < ns.length → fl[l]? = some .non
theorem PileB.start (ns : List Int) : PileB ns 0 (List.replicate ns.length .non) [] :=
  ⟨List.length_replicate, List.Pairwise.nil, fun _ h => (by cases h), fun _ h => (by cases h), fun l h => absurd h (Nat.not_lt_zero _), fun l _ h => by rw [List.getElem?_replicate, if_pos h]⟩
theorem PileB.pop {ns : List Int} {k t : Nat} {fl : List V} {pl : List Nat} (h : PileB ns k fl (pl ++ [t])) (hk : k < ns.length) (hv : ns.getD k 0 < ns.getD t 0) : PileB ns k (fl.set t (.int (k : Int))) pl := by
  have hin := List.pairwise_append.mp h.inc
  have ht : t < k := h.lt t (List.mem_append_right _ (List.mem_singleton.mpr rfl))
  have hot := h.open_ t (List.mem_append_right _ (List.mem_singleton.mpr rfl))
  have hne : ∀ p ∈ pl, p ≠ t := fun p hp e => by
    have := hin.2.2 p hp t (List.mem_singleton.mpr rfl)
    omega
  refine ⟨by rw [List.length_set]; exact h.len, hin.1, fun p hp => h.lt p (List.mem_append_left _ hp), fun p hp => ?_, fun l hl hnot => ?_, fun l h1 h2 => ?_⟩
  · rw [List.getElem?_set_ne (hne p hp).symm]
    exact h.open_ p (List.mem_append_left _ hp)
  · by_cases e : l = t
    · rw [e, List.getElem?_set_self (by rw [h.len]; omega), nearB_some ht hk hv fun m h1 h2 => hot.2 m h1 h2]
      rfl
    · rw [List.getElem?_set_ne (fun z => e z.symm)]
      refine h.done l hl fun hm => ?_
      rcases List.mem_append.mp hm with b | b
      · exact hnot b
      · exact e (List.mem_singleton.mp b)
  · rw [List.getElem?_set_ne (by omega)]
    exact h.late l h1 h2
theorem PileB.push {ns : List Int} {k : Nat} {fl : List V} {pl : List Nat} (h : PileB ns k fl pl) (hk : k < ns.length) (hv : ∀ r t, pl = r ++ [t] → ¬ ns.getD k 0 < ns.getD t 0) : PileB ns (k + 1) fl (pl ++ [k]) := by
  have all : ∀ p ∈ pl, ns.getD p 0 ≤ ns.getD k 0 := fun p hp => by
    rcases List.eq_nil_or_concat pl with e | ⟨r, t, e⟩
    · rw [e] at hp
      cases hp
    · have e' : pl = r ++ [t] := by rw [e]; simp
      have h1 := hv r t e'
      rw [e'] at hp
      rcases List.mem_append.mp hp with b | b
      · have hin := List.pairwise_append.mp (e' ▸ h.inc)
        have hpt := hin.2.2 p b t (List.mem_singleton.mpr rfl)
        have htk : t < k := h.lt t (by rw [e']; exact List.mem_append_right _ (List.mem_singleton.mpr rfl))
        have := (h.open_ p (by rw [e']; exact hp)).2 t hpt htk
        omega
      · rw [List.mem_singleton.mp b]
        omega
  refine ⟨h.len, List.pairwise_append.mpr ⟨h.inc, List.pairwise_singleton _ _, fun a ha b hb => by
    rw [List.mem_singleton.mp hb]
    exact h.lt a ha⟩, fun p hp => ?_, fun p hp => ?_, fun l hl hnot => ?_, fun l h1 h2 => h.late l (by omega) h2⟩
  · rcases List.mem_append.mp hp with b | b
    · have := h.lt p b
      omega
    · rw [List.mem_singleton.mp b]
      exact Nat.lt_succ_self _
  · rcases List.mem_append.mp hp with b | b
    · refine ⟨(h.open_ p b).1, fun m h1 h2 => ?_⟩
      by_cases e : m = k
      · rw [e]
        exact all p b
      · exact (h.open_ p b).2 m h1 (by omega)
    · rw [List.mem_singleton.mp b]
      exact ⟨h.late k (Nat.le_refl _) hk, fun m h1 h2 => by omega⟩
  · refine h.done l ?_ fun hm => hnot (List.mem_append_left _ hm)
    by_cases e : l = k
    · exact absurd (List.mem_append_right _ (List.mem_singleton.mpr e)) hnot
    · omega
theorem PileB.fin {ns : List Int} {fl : List V} {pl : List Nat} (h : PileB ns ns.length fl pl) : fl = (List.range ns.length).map fun l => optV (nearB ns l) := by
  refine List.ext_getElem? fun l => ?_
  rw [List.getElem?_map]
  by_cases hl : l < ns.length
  · rw [List.getElem?_range hl]
    show _ = some (optV (nearB ns l))
    by_cases hm : l ∈ pl
    · have ho := h.open_ l hm
      rw [ho.1, nearB_none fun m h1 h2 => ho.2 m h1 h2]
      rfl
    · exact h.done l hl hm
  · rw [List.getElem?_eq_none (by rw [h.len]; omega), List.getElem?_eq_none (by rw [List.length_range]; omega)]
    rfl
def nearsA (ns : List Int) (i : Nat) : List V := (List.range i).map fun k => optV (nearA ns k)
def nearsB (ns : List Int) (i : Nat) : List V := (List.range i).map fun k => optV (nearB ns k)
theorem nearsA_more (ns : List Int) (i : Nat) : nearsA ns (i + 1) = nearsA ns i ++ [optV (nearA ns i)] := by
  unfold nearsA
  rw [List.range_succ, List.map_append]
  rfl
theorem nearsB_more (ns : List Int) (i : Nat) : nearsB ns (i + 1) = nearsB ns i ++ [optV (nearB ns i)] := by
  unfold nearsB
  rw [List.range_succ, List.map_append]
  rfl
theorem nears_len (ns : List Int) (i : Nat) : (nearsA ns i).length = i ∧ (nearsB ns i).length = i := by
  constructor
  · unfold nearsA
    rw [List.length_map, List.length_range]
  · unfold nearsB
    rw [List.length_map, List.length_range]
theorem ok_opt : ∀ o : Option Nat, okV (optV o) = true
  | none => rfl
  | some _ => rfl
theorem ok_nearsA (ns : List Int) (i : Nat) : (nearsA ns i).all okV = true := by
  unfold nearsA
  rw [List.all_map]
  exact List.all_eq_true.mpr fun k _ => ok_opt _
theorem ok_nearsB (ns : List Int) (i : Nat) : (nearsB ns i).all okV = true := by
  unfold nearsB
  rw [List.all_map]
  exact List.all_eq_true.mpr fun k _ => ok_opt _
end VT
/-! ### the leasts of all stretches -/
namespace VT
open L2
/-- the least of the d + 1 numbers from i on -/
def minTo (ns : List Int) (i : Nat) : Nat → Int
  | 0 => ns.getD i 0
  | d + 1 => if ns.getD (i + (d + 1)) 0 < minTo ns i d then ns.getD (i + (d + 1)) 0 else minTo ns i d
theorem minTo_le (ns : List Int) (i : Nat) : ∀ (d k : Nat), k ≤ d → minTo ns i d ≤ ns.getD (i + k) 0
  | 0, k, h => by
    have e : k = 0 := by omega
    rw [e]
    exact Int.le_refl _
  | d + 1, k, h => by
    show (if ns.getD (i + (d + 1)) 0 < minTo ns i d then ns.getD (i + (d + 1)) 0 else minTo ns i d) ≤ _
    by_cases e : k = d + 1
    · rw [e]
      split <;> omega
    · have := minTo_le ns i d k (by omega)
      split <;> omega
theorem minTo_is (ns : List Int) (i : Nat) : ∀ d : Nat, ∃ k, k ≤ d ∧ minTo ns i d = ns.getD (i + k) 0
  | 0 => ⟨0, Nat.le_refl _, rfl⟩
  | d + 1 => by
    obtain ⟨k, h1, h2⟩ := minTo_is ns i d
    show ∃ k, k ≤ d + 1 ∧ (if ns.getD (i + (d + 1)) 0 < minTo ns i d then ns.getD (i + (d + 1)) 0 else minTo ns i d) = _
    by_cases c : ns.getD (i + (d + 1)) 0 < minTo ns i d
    · rw [if_pos c]
      exact ⟨d + 1, Nat.le_refl _, rfl⟩
    · rw [if_neg c]
      exact ⟨k, by omega, h2⟩
theorem slice_at {ns : List Int} {i n k : Nat} (h : k < n) (hi : i + k < ns.length) : ((ns.drop i).take n)[k]? = some (ns.getD (i + k) 0) := by
  rw [List.getElem?_take, if_pos h, List.getElem?_drop, getD_at' hi]
theorem minTo_slice {ns : List Int} {i d : Nat} {m : Int} (hd : i + d < ns.length) (hm : m ∈ (ns.drop i).take (d + 1)) (hle : ∀ x, x ∈ (ns.drop i).take (d + 1) → m ≤ x) : m = minTo ns i d := by
  obtain ⟨k, hk⟩ := List.mem_iff_getElem?.mp hm
  have hkl : k < ((ns.drop i).take (d + 1)).length := (List.getElem?_eq_some_iff.mp hk).1
  rw [List.length_take] at hkl
  rw [slice_at (by omega) (by omega)] at hk
  have e1 := Option.some.inj hk
  have h1 := minTo_le ns i d k (by omega)
  obtain ⟨k2, h2, h3⟩ := minTo_is ns i d
  have h4 := hle (ns.getD (i + k2) 0) (List.mem_of_getElem? (slice_at (ns := ns) (i := i) (n := d + 1) (k := k2) (by omega) (by omega)))
  omega
def lowsRow (ns : List Int) (i d : Nat) : List Int := (List.range d).map (minTo ns i)
def lows (ns : List Int) : Nat → List Int
  | 0 => []
  | i + 1 => lows ns i ++ lowsRow ns i (ns.length - i)
theorem lowsRow_more (ns : List Int) (i d : Nat) : lowsRow ns i (d + 1) = lowsRow ns i d ++ [minTo ns i d] := by
  unfold lowsRow
  rw [List.range_succ, List.map_append]
  rfl
theorem lowsRow_len (ns : List Int) (i d : Nat) : (lowsRow ns i d).length = d := by
  unfold lowsRow
  rw [List.length_map, List.length_range]
theorem lows_len (ns : List Int) : ∀ i : Nat, (lows ns i).length ≤ i * ns.length
  | 0 => Nat.zero_le _
  | i + 1 => by
    have ih := lows_len ns i
    show (lows ns i ++ lowsRow ns i (ns.length - i)).length ≤ _
    rw [List.length_append, lowsRow_len, Nat.succ_mul]
    omega
theorem lows_small {ns : List Int} {i : Nat} (h : ns.length ≤ 40) (hi : i ≤ ns.length) : (lows ns i).length ≤ 1600 := by
  have h1 := lows_len ns i
  have h2 : i * ns.length ≤ 40 * 40 := Nat.mul_le_mul (by omega) h
  omega
def filtL (P : Int → Bool) (ls : List Int) (i : Nat) : List V := ((ls.take i).filter P).map V.int
theorem filtL_yes {P : Int → Bool} {ls : List Int} {i : Nat} {z : Int} (h : ls[i]? = some z) (hp : P z = true) : filtL P ls (i + 1) = filtL P ls i ++ [V.int z] := by
  unfold filtL
  rw [take_more h, List.filter_append, List.map_append, List.filter_cons, if_pos hp]
  rfl
theorem filtL_no {P : Int → Bool} {ls : List Int} {i : Nat} {z : Int} (h : ls[i]? = some z) (hp : P z = false) : filtL P ls (i + 1) = filtL P ls i := by
  unfold filtL
  rw [take_more h, List.filter_append, List.map_append, List.filter_cons, if_neg (by rw [hp]; exact Bool.false_ne_true)]
  exact List.append_nil _
theorem filtL_len (P : Int → Bool) (ls : List Int) (i : Nat) : (filtL P ls i).length ≤ ls.length := by
  unfold filtL
  rw [List.length_map]
  refine Nat.le_trans (List.length_filter_le _ _) ?_
  rw [List.length_take]
  omega
theorem filtL_all (P : Int → Bool) (ls : List Int) : filtL P ls ls.length = (ls.filter P).map V.int := by
  unfold filtL
  rw [List.take_length]
def atLeast (n : Int) : Int → Bool := fun x => decide (n ≤ x)
end VT
/-! ### trees over places -/
namespace VT
open L2
inductive BT where
  | nil : BT
  | node (l r : BT) : BT
def BT.size : BT → Nat
  | .nil => 0
  | .node l r => l.size + 1 + r.size
def oV : Option Nat → V
  | none => .non
  | some n => .int (n : Int)
/-- what stands over each place, from f on, under top -/
def BT.code : BT → Nat → Option Nat → List (Option Nat)
  | .nil, _, _ => []
  | .node l r, f, top => l.code f (some (f + l.size)) ++ top :: r.code (f + l.size + 1) (some (f + l.size))
def BT.codeV (t : BT) (f : Nat) (top : Option Nat) : List V := (t.code f top).map oV
def BT.deep : BT → Nat → List Nat
  | .nil, _ => []
  | .node l r, d => l.deep (d + 1) ++ d :: r.deep (d + 1)
def BT.deepI (t : BT) : List Int := (t.deep 0).map fun (n : Nat) => (n : Int)
theorem BT.code_len : ∀ (t : BT) (f : Nat) (top : Option Nat), (t.code f top).length = t.size
  | .nil, _, _ => rfl
  | .node l r, f, top => by
    show (l.code f (some (f + l.size)) ++ top :: r.code (f + l.size + 1) (some (f + l.size))).length = l.size + 1 + r.size
    rw [List.length_append, List.length_cons, BT.code_len l, BT.code_len r]
    omega
theorem BT.codeV_len (t : BT) (f : Nat) (top : Option Nat) : (t.codeV f top).length = t.size := by
  unfold BT.codeV
  rw [List.length_map, BT.code_len]
theorem BT.deep_len : ∀ (t : BT) (d : Nat), (t.deep d).length = t.size
  | .nil, _ => rfl
  | .node l r, d => by
    show (l.deep (d + 1) ++ d :: r.deep (d + 1)).length = l.size + 1 + r.size
    rw [List.length_append, List.length_cons, BT.deep_len l, BT.deep_len r]
    omega
theorem oV_ok : ∀ x : Option Nat, okV (oV x) = true
  | none => rfl
  | some _ => rfl
theorem BT.codeV_ok (t : BT) (f : Nat) (top : Option Nat) : (t.codeV f top).all okV = true := by
  unfold BT.codeV
  rw [List.all_map]
  exact List.all_eq_true.mpr fun x _ => oV_ok x
theorem oV_inj : ∀ {x y : Option Nat}, oV x = oV y → x = y
  | none, none, _ => rfl
  | none, some _, h => by cases h
  | some _, none, h => by cases h
  | some a, some b, h => by
    have : (a : Int) = (b : Int) := V.int.inj h
    rw [show a = b by omega]
theorem map_oV_inj : ∀ {xs ys : List (Option Nat)}, xs.map oV = ys.map oV → xs = ys
  | [], [], _ => rfl
  | [], _ :: _, h => by cases h
  | _ :: _, [], h => by cases h
  | x :: xs, y :: ys, h => by
    rw [List.map_cons, List.map_cons] at h
    injection h with h1 h2
    rw [oV_inj h1, map_oV_inj h2]
/-- c written over xs from f on -/
def splice {α : Type} (xs : List α) (f : Nat) (c : List α) : List α := xs.take f ++ c ++ xs.drop (f + c.length)
theorem splice_get {α : Type} {xs : List α} {f : Nat} {c : List α} (h : f + c.length ≤ xs.length) (p : Nat) : (splice xs f c)[p]? = if p < f then xs[p]? else if p < f + c.length then c[p - f]? else xs[p]? := by
  unfold splice
  rw [List.append_assoc]
  by_cases h1 : p < f
  · rw [if_pos h1, List.getElem?_append_left (by rw [List.length_take]; omega), List.getElem?_take, if_pos h1]
  · rw [if_neg h1, List.getElem?_append_right (by rw [List.length_take]; omega), List.length_take, Nat.min_eq_left (by omega)]
    by_cases h2 : p < f + c.length
    · rw [if_pos h2, List.getElem?_append_left (by omega)]
    · rw [if_neg h2, List.getElem?_append_right (by omega), List.getElem?_drop]
      congr 1
      omega
theorem splice_len {α : Type} {xs : List α} {f : Nat} {c : List α} (h : f + c.length ≤ xs.length) : (splice xs f c).length = xs.length := by
  unfold splice
  rw [List.length_append, List.length_append, List.length_take, List.length_drop]
  omega
theorem splice_nil {α : Type} (xs : List α) (f : Nat) : splice xs f [] = xs := by
  unfold splice
  rw [List.append_nil]
  exact List.take_append_drop f xs
theorem splice_all {α : Type} {xs c : List α} (h : c.length = xs.length) : splice xs 0 c = c := by
  unfold splice
  rw [List.take_zero, List.nil_append, Nat.zero_add, h, List.drop_length, List.append_nil]
theorem node_get {α : Type} (c1 c2 : List α) (v : α) (i : Nat) : (c1 ++ v :: c2)[i]? = if i < c1.length then c1[i]? else if i = c1.length then some v else c2[i - c1.length - 1]? := by
  by_cases h1 : i < c1.length
  · rw [if_pos h1, List.getElem?_append_left h1]
  · rw [if_neg h1, List.getElem?_append_right (by omega)]
    by_cases h2 : i = c1.length
    · rw [if_pos h2, h2, Nat.sub_self] <;> rfl
    · rw [if_neg h2, show i - c1.length = i - c1.length - 1 + 1 by omega] <;> rfl
/-- the head, then ahead of it, then behind it -/
theorem splice_node {α : Type} {xs c1 c2 : List α} {f : Nat} {v : α} (h : f + c1.length + 1 + c2.length ≤ xs.length) : splice (splice (xs.set (f + c1.length) v) f c1) (f + c1.length + 1) c2 = splice xs f (c1 ++ v :: c2) := by
  have hl : (c1 ++ v :: c2).length = c1.length + 1 + c2.length := by
    rw [List.length_append, List.length_cons]
    omega
  apply List.ext_getElem?
  intro p
  rw [splice_get (by rw [splice_len (by rw [List.length_set]; omega), List.length_set]; omega), splice_get (by rw [List.length_set]; omega), splice_get (by rw [hl]; omega), List.getElem?_set, hl, node_get]
  by_cases h1 : p < f
  · rw [if_pos (by omega), if_pos h1, if_neg (by omega), if_pos h1]
  · rw [if_neg h1, if_neg h1]
    by_cases h2 : p < f + c1.length
    · rw [if_pos (by omega), if_pos h2, if_pos (by omega), if_pos (by omega)]
    · by_cases h3 : p = f + c1.length
      · rw [if_pos (by omega), if_neg h2, if_pos h3.symm, if_pos (by omega), if_pos (by omega), if_neg (by omega), if_pos (by omega)]
      · rw [if_neg (by omega)]
        by_cases h4 : p < f + c1.length + 1 + c2.length
        · rw [if_pos h4, if_pos (by omega), if_neg (by omega), if_neg (by omega)]
          congr 1
          omega
        · rw [if_neg h4, if_neg h2, if_neg (by omega), if_neg (by omega)]
theorem splice_node' {α : Type} {xs c1 c2 : List α} {f : Nat} {v : α} (h : f + c1.length + 1 + c2.length ≤ xs.length) : splice (splice (xs.set (f + c1.length) v) (f + c1.length + 1) c2) f c1 = splice xs f (c1 ++ v :: c2) := by
  have hl : (c1 ++ v :: c2).length = c1.length + 1 + c2.length := by
    rw [List.length_append, List.length_cons]
    omega
  apply List.ext_getElem?
  intro p
  rw [splice_get (by rw [splice_len (by rw [List.length_set]; omega), List.length_set]; omega), splice_get (by rw [List.length_set]; omega), splice_get (by rw [hl]; omega), List.getElem?_set, hl, node_get]
  by_cases h1 : p < f
  · rw [if_pos h1, if_pos (by omega), if_neg (by omega), if_pos h1]
  · rw [if_neg h1, if_neg h1]
    by_cases h2 : p < f + c1.length
    · rw [if_pos h2, if_pos (by omega), if_pos (by omega)]
    · rw [if_neg h2]
      by_cases h3 : p = f + c1.length
      · rw [if_pos (by omega), if_pos h3.symm, if_pos (by omega), if_pos (by omega), if_neg (by omega), if_pos (by omega)]
      · rw [if_neg (by omega)]
        by_cases h4 : p < f + c1.length + 1 + c2.length
        · rw [if_pos h4, if_pos (by omega), if_neg (by omega), if_neg (by omega)]
          congr 1
          omega
        · rw [if_neg h4, if_neg (by omega), if_neg (by omega)]
theorem BT.codeV_node (l r : BT) (f : Nat) (top : Option Nat) : (BT.node l r).codeV f top = l.codeV f (some (f + l.size)) ++ oV top :: r.codeV (f + l.size + 1) (some (f + l.size)) := by
  unfold BT.codeV
  show (l.code f (some (f + l.size)) ++ top :: r.code (f + l.size + 1) (some (f + l.size))).map oV = _
  rw [List.map_append, List.map_cons]
theorem splice_tree {xs : List V} {f : Nat} {l r : BT} {top : Option Nat} (h : f + (BT.node l r).size ≤ xs.length) : splice (splice (xs.set (f + l.size) (oV top)) f (l.codeV f (some (f + l.size)))) (f + l.size + 1) (r.codeV (f + l.size + 1) (some (f + l.size))) = splice xs f ((BT.node l r).codeV f top) := by
  have h' : f + (l.size + 1 + r.size) ≤ xs.length := h
  have e := splice_node (xs := xs) (c1 := l.codeV f (some (f + l.size))) (c2 := r.codeV (f + l.size + 1) (some (f + l.size))) (f := f) (v := oV top) (by rw [BT.codeV_len, BT.codeV_len]; omega)
  rw [BT.codeV_len] at e
  rw [BT.codeV_node]
  exact e
theorem splice_tree' {xs : List V} {f : Nat} {l r : BT} {top : Option Nat} (h : f + (BT.node l r).size ≤ xs.length) : splice (splice (xs.set (f + l.size) (oV top)) (f + l.size + 1) (r.codeV (f + l.size + 1) (some (f + l.size)))) f (l.codeV f (some (f + l.size))) = splice xs f ((BT.node l r).codeV f top) := by
  have h' : f + (l.size + 1 + r.size) ≤ xs.length := h
  have e := splice_node' (xs := xs) (c1 := l.codeV f (some (f + l.size))) (c2 := r.codeV (f + l.size + 1) (some (f + l.size))) (f := f) (v := oV top) (by rw [BT.codeV_len, BT.codeV_len]; omega)
  rw [BT.codeV_len] at e
  rw [BT.codeV_node]
  exact e
/-- the tree of lesser numbers -/
inductive IsCart (ns : List Int) : Nat → Nat → BT → Prop where
  | nil (f : Nat) : IsCart ns f f .nil
  | node {f b h : Nat} {m : Int} {l r : BT} (hm : IsLeast ns f b m h) (hl : IsCart ns f h l) (hr : IsCart ns (h + 1) b r) : IsCart ns f b (.node l r)
theorem IsCart.size {ns : List Int} {f b : Nat} {t : BT} (h : IsCart ns f b t) : f + t.size = b := by
  induction h with
  | nil f => rfl
  | node hm hl hr il ir =>
    show _ + (_ + 1 + _) = _
    omega
theorem IsCart.uniq {ns : List Int} {f b : Nat} {t : BT} (h : IsCart ns f b t) : ∀ {u : BT}, IsCart ns f b u → t = u := by
  induction h with
  | nil f =>
    intro u hu
    cases hu with
    | nil => rfl
    | node hm _ _ =>
      have := hm.lo
      have := hm.hi
      omega
  | node hm hl hr il ir =>
    intro u hu
    cases hu with
    | nil =>
      have := hm.lo
      have := hm.hi
      omega
    | node hm' hl' hr' =>
      obtain ⟨_, e⟩ := hm.uniq hm'
      subst e
      rw [il hl', ir hr']
theorem IsLeast.ex {ns : List Int} {i : Nat} : ∀ {d : Nat}, i + d < ns.length → ∃ m a, IsLeast ns i (i + (d + 1)) m a
  | 0, h => ⟨_, _, IsLeast.one (getD_at' h)⟩
  | d + 1, h => by
    obtain ⟨m, a, hL⟩ := IsLeast.ex (ns := ns) (i := i) (d := d) (by omega)
    have hv := getD_at' (ns := ns) (k := i + (d + 1)) h
    by_cases c : ns.getD (i + (d + 1)) 0 < m
    · exact ⟨_, _, hL.less hv c⟩
    · exact ⟨_, _, hL.more hv c⟩
theorem IsCart.ex {ns : List Int} : ∀ (n f b : Nat), b - f ≤ n → f ≤ b → b ≤ ns.length → ∃ t, IsCart ns f b t
  | 0, f, b, h1, h2, _ => by
    obtain rfl : f = b := by omega
    exact ⟨_, .nil f⟩
  | n + 1, f, b, h1, h2, h3 => by
    by_cases c : f = b
    · subst c
      exact ⟨_, .nil f⟩
    · obtain ⟨m, a, hL⟩ := IsLeast.ex (ns := ns) (i := f) (d := b - f - 1) (by omega)
      rw [show f + (b - f - 1 + 1) = b by omega] at hL
      have g1 := hL.lo
      have g2 := hL.hi
      obtain ⟨l, hl⟩ := IsCart.ex (ns := ns) n f a (by omega) g1 (by omega)
      obtain ⟨r, hr⟩ := IsCart.ex (ns := ns) n (a + 1) b (by omega) (by omega) h3
      exact ⟨_, .node hL hl hr⟩
theorem cart_ex (ns : List Int) : ∃ t, IsCart ns 0 ns.length t := IsCart.ex ns.length 0 ns.length (by omega) (Nat.zero_le _) (Nat.le_refl _)
/-- numbers in like order have like trees -/
theorem IsLeast.like {ns ms : List Int} {i j : Nat} {m : Int} {a : Nat} (h : IsLeast ns i j m a) (hlen : ns.length = ms.length) (hlt : ∀ (p q : Nat) (x y x' y' : Int), i ≤ p → p < j → i ≤ q → q < j → ns[p]? = some x → ns[q]? = some y → ms[p]? = some x' → ms[q]? = some y' → (x ≤ y → x' ≤ y') ∧ (x < y → x' < y')) : ∃ m', IsLeast ms i j m' a := by
  have hal : a < ns.length := (List.getElem?_eq_some_iff.mp h.val).1
  have hv : ms[a]? = some (ms.getD a 0) := getD_at' (by omega)
  have h1 := h.lo
  have h2 := h.hi
  refine ⟨ms.getD a 0, h1, h2, hv, fun k x k1 k2 hk => ?_, fun k x k1 k2 hk => ?_⟩
  · have hkl : k < ms.length := (List.getElem?_eq_some_iff.mp hk).1
    have hk' := getD_at' (ns := ns) (k := k) (by omega)
    exact (hlt a k _ _ _ _ h1 h2 k1 k2 h.val hk' hv hk).1 (h.le k _ k1 k2 hk')
  · have hkl : k < ms.length := (List.getElem?_eq_some_iff.mp hk).1
    have hk' := getD_at' (ns := ns) (k := k) (by omega)
    exact (hlt a k _ _ _ _ h1 h2 k1 (by omega) h.val hk' hv hk).2 (h.fst k _ k1 k2 hk')
theorem IsCart.like {ns ms : List Int} (hlen : ns.length = ms.length) (hlt : ∀ (p q : Nat) (x y x' y' : Int), ns[p]? = some x → ns[q]? = some y → ms[p]? = some x' → ms[q]? = some y' → (x ≤ y → x' ≤ y') ∧ (x < y → x' < y')) {f b : Nat} {t : BT} (h : IsCart ns f b t) : IsCart ms f b t := by
  induction h with
  | nil f => exact .nil f
  | node hm hl hr il ir =>
    obtain ⟨m', h'⟩ := hm.like hlen fun p q x y x' y' _ _ _ _ => hlt p q x y x' y'
    exact .node h' il ir
theorem IsCart.map {ns : List Int} {g : Int → Int} (hg : ∀ x y, (x ≤ y → g x ≤ g y) ∧ (x < y → g x < g y)) {f b : Nat} {t : BT} (h : IsCart ns f b t) : IsCart (ns.map g) f b t :=
  h.like (List.length_map _).symm fun p q x y x' y' h1 h2 h3 h4 => by
    rw [List.getElem?_map, h1] at h3
    rw [List.getElem?_map, h2] at h4
    rw [← Option.some.inj h3, ← Option.some.inj h4]
    exact hg x y
/-- the depths' tree is the tree -/
theorem BT.deep_ge : ∀ (t : BT) (d : Nat) (x : Nat), x ∈ t.deep d → d ≤ x ∧ x < d + t.size
  | .nil, _, _, h => by cases h
  | .node l r, d, x, h => by
    show d ≤ x ∧ x < d + (l.size + 1 + r.size)
    rcases List.mem_append.mp h with e | e
    · have := BT.deep_ge l (d + 1) x e
      omega
    · rcases List.mem_cons.mp e with e | e
      · omega
      · have := BT.deep_ge r (d + 1) x e
        omega
theorem BT.deep_cart : ∀ (t : BT) (d f : Nat) (ns : List Int), (∀ i, i < t.size → ns[f + i]? = ((t.deep d)[i]?).map fun (n : Nat) => (n : Int)) → IsCart ns f (f + t.size) t
  | .nil, _, f, _, _ => .nil f
  | .node l r, d, f, ns, h => by
    have hd : ∀ i, ((BT.node l r).deep d)[i]? = if i < l.size then (l.deep (d + 1))[i]? else if i = l.size then some d else (r.deep (d + 1))[i - l.size - 1]? := fun i => by
      show (l.deep (d + 1) ++ d :: r.deep (d + 1))[i]? = _
      rw [node_get, BT.deep_len]
    have hs : (BT.node l r).size = l.size + 1 + r.size := rfl
    have hl := BT.deep_cart l (d + 1) f ns fun i hi => by
      rw [h i (by omega), hd, if_pos hi]
    have hr := BT.deep_cart r (d + 1) (f + l.size + 1) ns fun i hi => by
      rw [show f + l.size + 1 + i = f + (l.size + 1 + i) by omega, h _ (by omega), hd, if_neg (by omega), if_neg (by omega), show l.size + 1 + i - l.size - 1 = i by omega]
    rw [show f + l.size + 1 + r.size = f + (BT.node l r).size by omega] at hr
    have val : ∀ k x, f ≤ k → k < f + (BT.node l r).size → k ≠ f + l.size → ns[k]? = some x → (d : Int) < x := fun k x k1 k2 k3 hk => by
      have e := h (k - f) (by omega)
      rw [show f + (k - f) = k by omega, hk, hd] at e
      by_cases c : k - f < l.size
      · rw [if_pos c] at e
        cases g : (l.deep (d + 1))[k - f]? with
        | none => rw [g] at e; cases e
        | some y =>
          rw [g] at e
          have := (BT.deep_ge l (d + 1) y (List.mem_of_getElem? g)).1
          have : x = (y : Int) := Option.some.inj e
          omega
      · rw [if_neg c, if_neg (by omega)] at e
        cases g : (r.deep (d + 1))[k - f - l.size - 1]? with
        | none => rw [g] at e; cases e
        | some y =>
          rw [g] at e
          have := (BT.deep_ge r (d + 1) y (List.mem_of_getElem? g)).1
          have : x = (y : Int) := Option.some.inj e
          omega
    have hv : ns[f + l.size]? = some (d : Int) := by
      rw [h _ (by omega), hd, if_neg (by omega), if_pos rfl] <;> rfl
    refine .node (m := (d : Int)) ⟨by omega, by omega, hv, fun k x k1 k2 hk => ?_, fun k x k1 k2 hk => ?_⟩ hl hr
    · by_cases c : k = f + l.size
      · rw [c, hv] at hk
        exact Int.le_of_eq (Option.some.inj hk)
      · have := val k x k1 k2 c hk
        omega
    · exact val k x k1 (by omega) (by omega) hk
theorem BT.deepI_len (t : BT) : t.deepI.length = t.size := by
  unfold BT.deepI
  rw [List.length_map, BT.deep_len]
theorem BT.deepI_cart (t : BT) : IsCart t.deepI 0 t.deepI.length t := by
  have h := BT.deep_cart t 0 0 t.deepI fun i _ => by
    unfold BT.deepI
    rw [Nat.zero_add, List.getElem?_map]
  rw [Nat.zero_add] at h
  rw [BT.deepI_len]
  exact h
/-- how places hang -/
theorem BT.links : ∀ (t : BT) (f d : Nat) (top : Option Nat) (i : Nat), i < t.size → ((t.code f top)[i]? = some top ∧ (t.deep d)[i]? = some d) ∨ ∃ j e, (t.code f top)[i]? = some (some (f + j)) ∧ j < t.size ∧ (t.deep d)[j]? = some e ∧ (t.deep d)[i]? = some (e + 1)
  | .nil, _, _, _, _, h => absurd h (Nat.not_lt_zero _)
  | .node l r, f, d, top, i, h => by
    have hs : (BT.node l r).size = l.size + 1 + r.size := rfl
    have hd : ∀ i, ((BT.node l r).deep d)[i]? = if i < l.size then (l.deep (d + 1))[i]? else if i = l.size then some d else (r.deep (d + 1))[i - l.size - 1]? := fun i => by
      show (l.deep (d + 1) ++ d :: r.deep (d + 1))[i]? = _
      rw [node_get, BT.deep_len]
    have hc : ∀ i, ((BT.node l r).code f top)[i]? = if i < l.size then (l.code f (some (f + l.size)))[i]? else if i = l.size then some top else (r.code (f + l.size + 1) (some (f + l.size)))[i - l.size - 1]? := fun i => by
      show (l.code f (some (f + l.size)) ++ top :: r.code (f + l.size + 1) (some (f + l.size)))[i]? = _
      rw [node_get, BT.code_len]
    by_cases c1 : i < l.size
    · rcases BT.links l f (d + 1) (some (f + l.size)) i c1 with ⟨a, b⟩ | ⟨j, e, a, b, c, g⟩
      · exact .inr ⟨l.size, d, by rw [hc, if_pos c1, a], by omega, by rw [hd, if_neg (by omega), if_pos rfl], by rw [hd, if_pos c1, b]⟩
      · exact .inr ⟨j, e, by rw [hc, if_pos c1, a], by omega, by rw [hd, if_pos b, c], by rw [hd, if_pos c1, g]⟩
    · by_cases c2 : i = l.size
      · exact .inl ⟨by rw [hc, if_neg c1, if_pos c2], by rw [hd, if_neg c1, if_pos c2]⟩
      · rcases BT.links r (f + l.size + 1) (d + 1) (some (f + l.size)) (i - l.size - 1) (by omega) with ⟨a, b⟩ | ⟨j, e, a, b, c, g⟩
        · exact .inr ⟨l.size, d, by rw [hc, if_neg c1, if_neg c2, a], by omega, by rw [hd, if_neg (by omega), if_pos rfl], by rw [hd, if_neg c1, if_neg c2, b]⟩
        · exact .inr ⟨l.size + 1 + j, e, by rw [hc, if_neg c1, if_neg c2, a, show f + l.size + 1 + j = f + (l.size + 1 + j) by omega], by omega, by rw [hd, if_neg (by omega), if_neg (by omega), show l.size + 1 + j - l.size - 1 = j by omega, c], by rw [hd, if_neg c1, if_neg c2, g]⟩
/-- climbing -/
def climb (xs : List V) : Nat → Nat → Nat → Option Nat
  | 0, _, deep => some deep
  | k + 1, at', deep => match xs[at']? with
    | some (.int j) => if 0 ≤ j ∧ j < (xs.length : Int) then climb xs k j.toNat (deep + 1) else none
    | _ => some deep
theorem climb_tree (t : BT) : ∀ (e k deep i : Nat), (t.deep 0)[i]? = some e → e < k → climb (t.codeV 0 none) k i deep = some (deep + e)
  | _, 0, _, _, _, h => absurd h (Nat.not_lt_zero _)
  | e, k + 1, deep, i, he, hk => by
    have hi : i < t.size := by
      have := (List.getElem?_eq_some_iff.mp he).1
      rw [BT.deep_len] at this
      exact this
    unfold climb
    have hx : (t.codeV 0 none)[i]? = ((t.code 0 none)[i]?).map oV := by
      unfold BT.codeV
      rw [List.getElem?_map]
    rcases BT.links t 0 0 none i hi with ⟨a, b⟩ | ⟨j, e', a, b, c, g⟩
    · rw [hx, a]
      rw [b] at he
      have := Option.some.inj he
      show some deep = some (deep + e)
      rw [← this, Nat.add_zero]
    · rw [hx, a, Nat.zero_add]
      show (if 0 ≤ (j : Int) ∧ (j : Int) < ((t.codeV 0 none).length : Int) then climb (t.codeV 0 none) k (j : Int).toNat (deep + 1) else none) = some (deep + e)
      rw [g] at he
      have he' := Option.some.inj he
      rw [BT.codeV_len, if_pos ⟨by omega, by omega⟩, Int.toNat_natCast, climb_tree t e' k (deep + 1) j c (by omega), ← he']
      congr 1
      omega
def depthsTo (xs : List V) : Nat → Option (List Nat)
  | 0 => some []
  | i + 1 => match depthsTo xs i with
    | none => none
    | some ds => match climb xs (xs.length + 1) i 0 with
      | none => none
      | some d => some (ds ++ [d])
theorem depthsTo_tree (t : BT) : ∀ i, i ≤ t.size → depthsTo (t.codeV 0 none) i = some ((t.deep 0).take i)
  | 0, _ => by
    rw [List.take_zero]
    rfl
  | i + 1, h => by
    have ih := depthsTo_tree t i (by omega)
    have hil : i < (t.deep 0).length := by
      rw [BT.deep_len]
      omega
    have hg : (t.deep 0)[i]? = some ((t.deep 0)[i]'hil) := List.getElem?_eq_getElem hil
    have hb := (BT.deep_ge t 0 _ (List.mem_of_getElem? hg)).2
    unfold depthsTo
    rw [ih, climb_tree t _ _ 0 i hg (by rw [BT.codeV_len]; omega), Nat.zero_add, take_more hg]
theorem depthsTo_len {xs : List V} : ∀ {i : Nat} {ds : List Nat}, depthsTo xs i = some ds → ds.length = i
  | 0, ds, h => by
    rw [← Option.some.inj h] <;> rfl
  | i + 1, ds, h => by
    unfold depthsTo at h
    cases e : depthsTo xs i with
    | none => rw [e] at h; cases h
    | some es =>
      rw [e] at h
      cases g : climb xs (xs.length + 1) i 0 with
      | none => rw [g] at h; cases h
      | some d =>
        rw [g] at h
        rw [← Option.some.inj h, List.length_append, depthsTo_len e] <;> rfl
def natI (ds : List Nat) : List Int := ds.map fun (n : Nat) => (n : Int)
theorem natI_len (ds : List Nat) : (natI ds).length = ds.length := List.length_map _
theorem natI_snoc (ds : List Nat) (e : Nat) : natI (ds ++ [e]) = natI ds ++ [(e : Int)] := by
  unfold natI
  rw [List.map_append]
  rfl
/-- what a tree is -/
def IsTree (xs : List V) : Prop := ∃ t : BT, xs = t.codeV 0 none
theorem isTree_deep {xs : List V} (h : IsTree xs) : ∃ t : BT, xs = t.codeV 0 none ∧ depthsTo xs xs.length = some (t.deep 0) ∧ IsCart (natI (t.deep 0)) 0 xs.length t := by
  obtain ⟨t, rfl⟩ := h
  refine ⟨t, rfl, ?_, ?_⟩
  · rw [BT.codeV_len, depthsTo_tree t t.size (Nat.le_refl _), List.take_of_length_le (by rw [BT.deep_len]; exact Nat.le_refl _)]
  · have := BT.deepI_cart t
    rw [BT.deepI_len] at this
    rw [BT.codeV_len]
    exact this
end VT
/-! ### widest blocks -/
namespace VT
/-- the block of the d + 1 towers from i on: its area -/
def areaOf (ns : List Int) (i d : Nat) : Int := minTo ns i d * ((d : Int) + 1)
/-- of the blocks that done names, (i, d) is the first of the widest; it is ahead of (a, b) or there -/
structure WideTo (ns : List Int) (done : Nat → Nat → Prop) (i d : Nat) : Prop where
  there : i + d < ns.length
  all : ∀ i' d', done i' d' → i' + d' < ns.length → areaOf ns i' d' ≤ areaOf ns i d ∧ (areaOf ns i' d' = areaOf ns i d → i < i' ∨ i = i' ∧ d ≤ d')
theorem WideTo.uniq {ns : List Int} {i d i' d' : Nat} (h : WideTo ns (fun _ _ => True) i d) (h' : WideTo ns (fun _ _ => True) i' d') : i = i' ∧ d = d' := by
  obtain ⟨a1, a2⟩ := h.all i' d' trivial h'.there
  obtain ⟨b1, b2⟩ := h'.all i d trivial h.there
  have e : areaOf ns i' d' = areaOf ns i d := by omega
  have c1 := a2 e
  have c2 := b2 e.symm
  omega
/-- behind the blocks from (a, 0) to (a, b - 1) and all from earlier places -/
def upTo (a b : Nat) : Nat → Nat → Prop := fun i d => i < a ∨ i = a ∧ d < b
theorem WideTo.start {ns : List Int} (h : 0 < ns.length) : WideTo ns (upTo 0 0) 0 0 := ⟨h, fun i' d' hd _ => by
  rcases hd with h | h <;> omega⟩
theorem WideTo.keep {ns : List Int} {a b i d : Nat} (h : WideTo ns (upTo a b) i d) (hp : i < a ∨ i = a ∧ d ≤ b) (hv : ¬ areaOf ns i d < areaOf ns a b) : WideTo ns (upTo a (b + 1)) i d := ⟨h.there, fun i' d' hd hl => by
  by_cases e : i' = a ∧ d' = b
  · obtain ⟨rfl, rfl⟩ := e
    exact ⟨by omega, fun _ => by omega⟩
  · refine h.all i' d' ?_ hl
    rcases hd with g | g
    · exact .inl g
    · exact .inr (by omega)⟩
theorem WideTo.turn {ns : List Int} {a b i d : Nat} (h : WideTo ns (upTo a b) i d) (hl : a + b < ns.length) (hv : areaOf ns i d < areaOf ns a b) : WideTo ns (upTo a (b + 1)) a b := ⟨hl, fun i' d' hd hl' => by
  by_cases e : i' = a ∧ d' = b
  · obtain ⟨rfl, rfl⟩ := e
    exact ⟨Int.le_refl _, fun _ => .inr ⟨rfl, Nat.le_refl _⟩⟩
  · have g := (h.all i' d' (by
      rcases hd with g | g
      · exact .inl g
      · exact .inr (by omega)) hl').1
    exact ⟨by omega, fun z => by omega⟩⟩
theorem WideTo.row {ns : List Int} {a i d : Nat} (h : WideTo ns (upTo a (ns.length - a)) i d) : WideTo ns (upTo (a + 1) 0) i d := ⟨h.there, fun i' d' hd hl => h.all i' d' (by
  rcases hd with g | g
  · by_cases e : i' = a
    · exact .inr (by omega)
    · exact .inl (by omega)
  · omega) hl⟩
theorem WideTo.fin {ns : List Int} {i d : Nat} (h : WideTo ns (upTo ns.length 0) i d) : WideTo ns (fun _ _ => True) i d := ⟨h.there, fun i' d' _ hl => h.all i' d' (.inl (by omega)) hl⟩
/-- the blocks as the law writes them -/
def blk (ns : List Int) (i d : Nat) : List Int := [-areaOf ns i d, (i : Int), (i : Int) + 1 + (d : Int)]
def blksRow (ns : List Int) (i d : Nat) : List (List Int) := (List.range d).map (blk ns i)
def blks (ns : List Int) : Nat → List (List Int)
  | 0 => []
  | i + 1 => blks ns i ++ blksRow ns i (ns.length - i)
theorem blksRow_more (ns : List Int) (i d : Nat) : blksRow ns i (d + 1) = blksRow ns i d ++ [blk ns i d] := by
  unfold blksRow
  rw [List.range_succ, List.map_append]
  rfl
theorem mem_blks {ns : List Int} : ∀ (a : Nat) (z : List Int), a ≤ ns.length → (z ∈ blks ns a ↔ ∃ i d, i < a ∧ i + d < ns.length ∧ z = blk ns i d)
  | 0, z, _ => ⟨fun h => (by cases h), fun ⟨i, d, h, _⟩ => absurd h (Nat.not_lt_zero _)⟩
  | a + 1, z, ha => by
    have ih := mem_blks (ns := ns) a z (by omega)
    show z ∈ blks ns a ++ blksRow ns a (ns.length - a) ↔ _
    rw [List.mem_append, ih]
    constructor
    · rintro (⟨i, d, h1, h2, h3⟩ | h)
      · exact ⟨i, d, by omega, h2, h3⟩
      · obtain ⟨d, hd, rfl⟩ := List.mem_map.mp h
        rw [List.mem_range] at hd
        exact ⟨a, d, by omega, by omega, rfl⟩
    · rintro ⟨i, d, h1, h2, h3⟩
      by_cases e : i = a
      · subst e
        exact .inr (List.mem_map.mpr ⟨d, List.mem_range.mpr (by omega), h3.symm⟩)
      · exact .inl ⟨i, d, by omega, h2, h3⟩
theorem lex3 {a b c x y z : Int} : ([a, b, c] : List Int) < [x, y, z] ↔ a < x ∨ (a = x ∧ (b < y ∨ (b = y ∧ c < z))) := by
  simp [List.cons_lt_cons_iff]
/-- the least of the law's blocks is the widest -/
theorem least_blk {ns : List Int} {z : List Int} (hz : z ∈ blks ns ns.length) (hl : ∀ y, y ∈ blks ns ns.length → ¬ y < z) : ∃ i d, z = blk ns i d ∧ WideTo ns (fun _ _ => True) i d := by
  obtain ⟨i, d, h1, h2, rfl⟩ := (mem_blks _ _ (Nat.le_refl _)).mp hz
  refine ⟨i, d, rfl, h2, fun i' d' _ hl' => ?_⟩
  have g := hl (blk ns i' d') ((mem_blks _ _ (Nat.le_refl _)).mpr ⟨i', d', by omega, hl', rfl⟩)
  unfold blk at g
  rw [lex3] at g
  refine ⟨?_, fun e => ?_⟩
  · refine Int.not_lt.mp fun c => g (.inl (by omega))
  · by_cases c : i < i' ∨ i = i' ∧ d ≤ d'
    · exact c
    · exact absurd (.inr ⟨by omega, by omega⟩) g
end VT
/-! ### a row cut in two -/
namespace VT
open L2
theorem take_at {ns : List Int} {a k : Nat} (h : k < a) : (ns.take a)[k]? = ns[k]? := by
  rw [List.getElem?_take, if_pos h]
theorem take_getD {ns : List Int} {a k : Nat} (h : k < a) : (ns.take a).getD k 0 = ns.getD k 0 := by
  rw [List.getD_eq_getElem?_getD, take_at h, List.getD_eq_getElem?_getD]
theorem drop_at (ns : List Int) (a k : Nat) : (ns.drop a)[k]? = ns[a + k]? := List.getElem?_drop
theorem drop_getD (ns : List Int) (a k : Nat) : (ns.drop a).getD k 0 = ns.getD (a + k) 0 := by
  rw [List.getD_eq_getElem?_getD, drop_at, List.getD_eq_getElem?_getD]
theorem IsLeast.of_take {ns : List Int} {a i j : Nat} {m : Int} {h : Nat} (hj : j ≤ a) (hL : IsLeast (ns.take a) i j m h) : IsLeast ns i j m h := by
  have e : ∀ k, k < j → (ns.take a)[k]? = ns[k]? := fun k hk => take_at (by omega)
  exact ⟨hL.lo, hL.hi, by rw [← e _ hL.hi]; exact hL.val, fun k x h1 h2 h3 => hL.le k x h1 h2 (by rw [e k h2]; exact h3), fun k x h1 h2 h3 => hL.fst k x h1 h2 (by rw [e k (by have := hL.hi; omega)]; exact h3)⟩
theorem IsLeast.of_drop {ns : List Int} {a i j : Nat} {m : Int} {h : Nat} (hL : IsLeast (ns.drop a) i j m h) : IsLeast ns (a + i) (a + j) m (a + h) := by
  have e : ∀ k, a ≤ k → (ns.drop a)[k - a]? = ns[k]? := fun k hk => by rw [drop_at, show a + (k - a) = k by omega]
  have l1 := hL.lo
  have l2 := hL.hi
  refine ⟨by omega, by omega, ?_, fun k x h1 h2 h3 => hL.le (k - a) x (by omega) (by omega) (by rw [e k (by omega)]; exact h3), fun k x h1 h2 h3 => hL.fst (k - a) x (by omega) (by omega) (by rw [e k (by omega)]; exact h3)⟩
  rw [← drop_at]
  exact hL.val
/-- two stretches side by side -/
theorem IsLeast.first {ns : List Int} {i j k : Nat} {m m' : Int} {h h' : Nat} (hA : IsLeast ns i j m h) (hB : IsLeast ns j k m' h') (c : ¬ m' < m) : IsLeast ns i k m h :=
  ⟨hA.lo, by have := hA.hi; have := hB.lo; have := hB.hi; omega, hA.val, fun l x h1 h2 h3 => by
    by_cases z : l < j
    · exact hA.le l x h1 z h3
    · have := hB.le l x (by omega) h2 h3
      omega, hA.fst⟩
theorem IsLeast.second {ns : List Int} {i j k : Nat} {m m' : Int} {h h' : Nat} (hA : IsLeast ns i j m h) (hB : IsLeast ns j k m' h') (c : m' < m) : IsLeast ns i k m' h' :=
  ⟨by have := hA.lo; have := hA.hi; have := hB.lo; omega, hB.hi, hB.val, fun l x h1 h2 h3 => by
    by_cases z : l < j
    · have := hA.le l x h1 z h3
      omega
    · exact hB.le l x (by omega) h2 h3, fun l x h1 h2 h3 => by
    by_cases z : l < j
    · have := hA.le l x h1 z h3
      omega
    · exact hB.fst l x (by omega) h2 h3⟩
theorem IsCart.of_take {ns : List Int} {a : Nat} {i j : Nat} {t : BT} (h : IsCart (ns.take a) i j t) : j ≤ a → IsCart ns i j t := by
  induction h with
  | nil f => exact fun _ => .nil f
  | node hm hl hr il ir =>
    intro hj
    have := hm.hi
    exact .node (hm.of_take hj) (il (by omega)) (ir hj)
theorem IsCart.of_drop {ns : List Int} {a : Nat} {i j : Nat} {t : BT} (h : IsCart (ns.drop a) i j t) : IsCart ns (a + i) (a + j) t := by
  induction h with
  | nil f => exact .nil _
  | node hm hl hr il ir => exact .node hm.of_drop il ir
theorem BT.code_shift : ∀ (t : BT) (f k : Nat) (top : Option Nat), t.code (k + f) (top.map (k + ·)) = (t.code f top).map (Option.map (k + ·))
  | .nil, _, _, _ => rfl
  | .node l r, f, k, top => by
    show l.code (k + f) (some (k + f + l.size)) ++ top.map (k + ·) :: r.code (k + f + l.size + 1) (some (k + f + l.size)) = (l.code f (some (f + l.size)) ++ top :: r.code (f + l.size + 1) (some (f + l.size))).map _
    rw [List.map_append, List.map_cons, ← BT.code_shift l f k (some (f + l.size)), ← BT.code_shift r (f + l.size + 1) k (some (f + l.size))]
    show l.code (k + f) (some (k + f + l.size)) ++ _ = l.code (k + f) (some (k + (f + l.size))) ++ top.map (k + ·) :: r.code (k + (f + l.size + 1)) (some (k + (f + l.size)))
    rw [show k + (f + l.size) = k + f + l.size by omega, show k + (f + l.size + 1) = k + f + l.size + 1 by omega]
theorem BT.code_some : ∀ (t : BT) (f h : Nat) (x : Option Nat), x ∈ t.code f (some h) → ∃ q, x = some q
  | .nil, _, _, _, e => by cases e
  | .node l r, f, h, x, e => by
    rcases List.mem_append.mp e with e | e
    · exact BT.code_some l _ _ x e
    · rcases List.mem_cons.mp e with e | e
      · exact ⟨h, e⟩
      · exact BT.code_some r _ _ x e
theorem BT.code_ints (t : BT) (f h : Nat) : ∃ qs : List Nat, t.code f (some h) = qs.map some := by
  have key : ∀ xs : List (Option Nat), (∀ x ∈ xs, ∃ q, x = some q) → ∃ qs : List Nat, xs = qs.map some := fun xs => by
    induction xs with
    | nil => exact fun _ => ⟨[], rfl⟩
    | cons x xs ih =>
      intro hx
      obtain ⟨q, rfl⟩ := hx x (List.mem_cons_self ..)
      obtain ⟨qs, rfl⟩ := ih fun y hy => hx y (List.mem_cons_of_mem _ hy)
      exact ⟨q :: qs, rfl⟩
  exact key _ fun x hx => BT.code_some t f h x hx
theorem count_ints (qs : List Nat) : ((qs.map some).map oV).countP (fun z => eqV z .non) = 0 := by
  induction qs with
  | nil => rfl
  | cons q qs ih =>
    rw [List.map_cons, List.map_cons, List.countP_cons, ih]
    rfl
theorem BT.codeV_count (l r : BT) (f : Nat) : ((BT.node l r).codeV f none).countP (fun z => eqV z .non) = 1 := by
  rw [BT.codeV_node, List.countP_append, List.countP_cons]
  unfold BT.codeV
  obtain ⟨q1, h1⟩ := l.code_ints f (f + l.size)
  obtain ⟨q2, h2⟩ := r.code_ints (f + l.size + 1) (f + l.size)
  rw [h1, h2, count_ints, count_ints]
  rfl
/-- nearest lesser ones ahead -/
theorem lastP_congr {P R : Nat → Bool} : ∀ m : Nat, (∀ i, i < m → P i = R i) → lastP P m = lastP R m
  | 0, _ => rfl
  | m + 1, h => by
    unfold lastP
    rw [h m (Nat.lt_succ_self _), lastP_congr m fun i hi => h i (by omega)]
theorem nearA_take {ns : List Int} {a k : Nat} (h : k < a) : nearA (ns.take a) k = nearA ns k := by
  unfold nearA
  refine lastP_congr k fun i hi => ?_
  unfold lessA
  rw [take_getD h, take_getD (by omega)]
theorem nearsA_take {ns : List Int} {a n : Nat} (h : a ≤ n) : (nearsA ns n).take a = nearsA (ns.take a) a := by
  unfold nearsA
  rw [← List.map_take, List.take_range, Nat.min_eq_left h]
  refine List.map_congr_left fun k hk => ?_
  rw [nearA_take (List.mem_range.mp hk)]
/-- the blocks -/
theorem minTo_take {ns : List Int} {a i : Nat} : ∀ {d : Nat}, i + d < a → minTo (ns.take a) i d = minTo ns i d
  | 0, h => take_getD (by omega)
  | d + 1, h => by
    show (if (ns.take a).getD (i + (d + 1)) 0 < minTo (ns.take a) i d then (ns.take a).getD (i + (d + 1)) 0 else minTo (ns.take a) i d) = (if ns.getD (i + (d + 1)) 0 < minTo ns i d then ns.getD (i + (d + 1)) 0 else minTo ns i d)
    rw [take_getD h, minTo_take (by omega)]
theorem minTo_drop {ns : List Int} {a i : Nat} : ∀ {d : Nat}, minTo (ns.drop a) i d = minTo ns (a + i) d
  | 0 => drop_getD ns a i
  | d + 1 => by
    show (if (ns.drop a).getD (i + (d + 1)) 0 < minTo (ns.drop a) i d then (ns.drop a).getD (i + (d + 1)) 0 else minTo (ns.drop a) i d) = (if ns.getD (a + i + (d + 1)) 0 < minTo ns (a + i) d then ns.getD (a + i + (d + 1)) 0 else minTo ns (a + i) d)
    rw [drop_getD, minTo_drop, show a + (i + (d + 1)) = a + i + (d + 1) by omega]
theorem wide_take {ns : List Int} {a i d i' d' : Nat} (h : WideTo ns (fun _ _ => True) i d) (h' : i' + d' < (ns.take a).length) : areaOf (ns.take a) i' d' ≤ areaOf ns i d := by
  rw [List.length_take] at h'
  have e : areaOf (ns.take a) i' d' = areaOf ns i' d' := by
    unfold areaOf
    rw [minTo_take (by omega)]
  rw [e]
  exact (h.all i' d' trivial (by omega)).1
theorem wide_drop {ns : List Int} {a i d i' d' : Nat} (h : WideTo ns (fun _ _ => True) i d) (h' : i' + d' < (ns.drop a).length) : areaOf (ns.drop a) i' d' ≤ areaOf ns i d := by
  rw [List.length_drop] at h'
  have e : areaOf (ns.drop a) i' d' = areaOf ns (a + i') d' := by
    unfold areaOf
    rw [minTo_drop]
  rw [e]
  exact (h.all (a + i') d' trivial (by omega)).1
/-- the whole row's tree -/
theorem IsCart.head {ns : List Int} {f b : Nat} {t : BT} {m : Int} {h : Nat} (hC : IsCart ns f b t) (hL : IsLeast ns f b m h) : ∃ l r, t = .node l r ∧ IsCart ns f h l ∧ IsCart ns (h + 1) b r := by
  cases hC with
  | nil =>
    have := hL.lo
    have := hL.hi
    omega
  | @node _ _ h' _ l r hm hl hr =>
    obtain ⟨_, e⟩ := hm.uniq hL
    subst e
    exact ⟨l, r, rfl, hl, hr⟩
theorem head_at (l r : BT) (h : Nat) (e : l.size = h) : ((BT.node l r).codeV 0 none)[h]? = some .non := by
  rw [BT.codeV_node, node_get, BT.codeV_len, if_neg (by omega), if_pos e.symm]
  rfl
theorem head_take (l r : BT) (h : Nat) (e : l.size = h) : ((BT.node l r).codeV 0 none).take h = l.codeV 0 (some h) := by
  rw [BT.codeV_node, Nat.zero_add, e]
  exact List.take_left' (by rw [BT.codeV_len]; exact e)
theorem head_drop (l r : BT) (h : Nat) (e : l.size = h) : ((BT.node l r).codeV 0 none).drop (h + 1) = r.codeV (h + 1) (some h) := by
  rw [BT.codeV_node, Nat.zero_add, e]
  show List.drop (h + 1) (l.codeV 0 (some h) ++ oV none :: r.codeV (h + 1) (some h)) = _
  rw [List.append_cons]
  exact List.drop_left' (by rw [List.length_append, BT.codeV_len, e] <;> rfl)
def absI (ns : List Int) : List Int := ns.map fun x => if x < 0 then -x else x
theorem absI_len (ns : List Int) : (absI ns).length = ns.length := List.length_map _
theorem absI_nn (ns : List Int) : ∀ x ∈ absI ns, (0 : Int) ≤ x := fun x hx => by
  obtain ⟨y, _, rfl⟩ := List.mem_map.mp hx
  split <;> omega
def absL (ns : List Int) (i : Nat) : List V := (absI (ns.take i)).map V.int
theorem absL_more {ns : List Int} {i : Nat} {x : Int} (h : ns[i]? = some x) : absL ns (i + 1) = absL ns i ++ [V.int (if x < 0 then -x else x)] := by
  unfold absL absI
  rw [take_more h, List.map_append, List.map_append]
  rfl
theorem absL_all (ns : List Int) : absL ns ns.length = (absI ns).map V.int := by
  unfold absL
  rw [List.take_length]
theorem absL_len (ns : List Int) (i : Nat) : (absL ns i).length ≤ ns.length := by
  unfold absL
  rw [List.length_map, absI_len, List.length_take]
  omega
theorem absI_take (ns : List Int) (a : Nat) : absI (ns.take a) = (absI ns).take a := List.map_take ..
theorem absI_drop (ns : List Int) (a : Nat) : absI (ns.drop a) = (absI ns).drop a := List.map_drop ..
end VT
local macro_rules | `(tactic| walk_at "ne") => `(tactic| first | assumption | exact Ne.symm (by assumption) | ((refine' VT.ne_new ?h1 ?h2); (case h1 => assumption); (case h2 => walk_at "hp")) | ((refine' VT.ne_new' ?h1 ?h2); (case h1 => assumption); (case h2 => walk_at "hp")))
local macro_rules | `(tactic| walk_at "hp") => `(tactic| first | assumption | exact L2.upd_same | ((refine' VT.up_get ?n ?h); (case n => walk_at "ne"); (case h => walk_at "hp")) | ((refine' VT.Same.get ?e ?h); (case e => assumption); (case h => walk_at "hp")) | ((refine' VT.But.get ?e ?n ?h); (case e => assumption); (case n => walk_at "ne"); (case h => walk_at "hp")))
local macro_rules | `(tactic| walk_at "fr") => `(tactic| first | assumption | ((refine' L2.Same.free ?e ?h); (case h => assumption); (case e => walk_at "sm")))
local macro_rules | `(tactic| walk_at "sm") => `(tactic| first | assumption | exact L2.Same.refl _ | ((refine' VT.same_new2 ?e ?h); (case h => assumption); (case e => walk_at "sm")) | ((refine' VT.same_mut ?e ?h); (case h => walk_at "fr"); (case e => walk_at "sm")) | ((refine' L2.Same.trans ?a ?b); (case b => assumption); (case a => walk_at "sm")) | ((refine' VT.same_but ?a ?b ?c); (case b => assumption); (case c => walk_at "fr"); (case a => walk_at "sm")))
local macro_rules | `(tactic| walk_at "sq") => `(tactic| first | assumption | ((refine' VT.SqL.lst ?h); (case h => walk_at "hp")) | ((refine' L2.Same.seq ?e ?h); (case h => assumption); (case e => walk_at "sm")))
local macro_rules | `(tactic| walk_at "sqT") => `(tactic| first | assumption | ((refine' VT.SqT.tup ?h); (case h => walk_at "hp")) | ((refine' VT.same_seqT ?e ?h); (case h => assumption); (case e => walk_at "sm")))
local macro_rules | `(tactic| walk_at "cond") => `(tactic| first | omega | (show (0 : Int) < _; omega) | exact ⟨by omega, by omega, by omega, by omega⟩ | exact ⟨by decide, by decide⟩ | exact ⟨by omega, by omega⟩ | exact Or.inl ⟨by omega, by omega⟩ | exact Or.inr ⟨by omega, by omega⟩ | exact ⟨by omega, by omega, by omega⟩ | decide)
local macro_rules | `(tactic| walk_at "go1") => `(tactic| first
  | with_reducible refine' VT.r_seq ?_ | with_reducible refine' VT.r_asg ?_ | with_reducible refine' VT.r_name ?_ | with_reducible refine' VT.r_sub ?_ | ((with_reducible refine' VT.r_var ?h ?_); (case h => exact rfl)) | with_reducible refine' VT.r_c ?_
  | with_reducible refine' VT.r_op ?_ | with_reducible refine' VT.r_I0 ?_ | with_reducible refine' VT.r_eqI ?_ | with_reducible refine' VT.r_neI ?_ | with_reducible refine' VT.r_eqB ?_ | with_reducible refine' VT.r_neB ?_
  | with_reducible refine' VT.r_test ?_ | with_reducible refine' VT.r_B ?_ | with_reducible refine' VT.r_bl ?_ | with_reducible refine' VT.r_cons ?_ | with_reducible refine' VT.r_nil ?_ | with_reducible refine' VT.r_CB ?_ | with_reducible refine' VT.r_call ?_
  | ((with_reducible refine' VT.r_I ?c ?_); (case c => walk_at "cond")) | ((with_reducible refine' VT.r_lenI ?s ?_); (case s => walk_at "sq")) | ((with_reducible refine' VT.r_len ?s ?_); (case s => walk_at "sq")) | ((with_reducible refine' VT.r_lenT ?s ?_); (case s => walk_at "sqT")) | ((with_reducible refine' VT.r_ixL ?s ?a ?_); (case s => walk_at "sq"); (case a => walk_at "at")) | ((with_reducible refine' VT.r_ixT ?s ?a ?_); (case s => walk_at "sqT"); (case a => walk_at "at"))
  | with_reducible refine' VT.r_for1 ?_ | ((with_reducible refine' VT.r_rng1 ?c ?_); (case c => walk_at "cond")) | with_reducible refine' VT.r_for2 ?_ | ((with_reducible refine' VT.r_rng2 ?c ?_); (case c => walk_at "cond")) | with_reducible refine' VT.r_forL ?_ | ((with_reducible refine' VT.r_itL ?s ?_); (case s => walk_at "sq")) | with_reducible refine' VT.r_forC ?_ | with_reducible refine' VT.r_rg1 ?_ | with_reducible refine' VT.r_rg2 ?_ | with_reducible refine' VT.r_ij ?_ | ((with_reducible refine' VT.r_rngC ?c ?_); (case c => walk_at "cond")) | with_reducible refine' VT.r_listRev ?_ | ((with_reducible refine' VT.r_revOf ?s ?_); (case s => walk_at "sq")) | with_reducible refine' VT.r_forT ?_ | ((with_reducible refine' VT.r_itT ?s ?_); (case s => walk_at "sqT"))
  | with_reducible refine' VT.r_lc1 ?_ | with_reducible refine' VT.r_lc2 ?_ | with_reducible refine' VT.r_lcL ?_ | with_reducible refine' VT.r_yes ?_
  | with_reducible refine' VT.r_drop ?_ | with_reducible refine' VT.r_ret ?_ | with_reducible refine' VT.r_retN ?_ | with_reducible refine' VT.r_if ?_ | with_reducible refine' VT.r_next ?_ | with_reducible refine' VT.r_chain ?_ | with_reducible refine' VT.r_chain3 ?_ | with_reducible refine' VT.r_sFld ?_ | with_reducible refine' VT.r_not ?_
  | with_reducible refine' VT.r_andV ?_ | with_reducible refine' VT.r_orV ?_ | with_reducible refine' VT.r_notV ?_ | with_reducible refine' VT.r_ifE ?_ | with_reducible refine' VT.r_lst ?_ | with_reducible refine' VT.r_tup ?_ | with_reducible refine' VT.r_sl ?_ | with_reducible refine' VT.r_part ?_ | with_reducible refine' VT.r_int ?_ | with_reducible refine' VT.r_noPart ?_
  | with_reducible refine' VT.r_bm ?_ | with_reducible refine' VT.r_bm0 ?_ | with_reducible refine' VT.r_fld ?_ | with_reducible refine' VT.r_un ?_ | with_reducible refine' VT.r_U ?_ | with_reducible refine' VT.r_isN ?_ | with_reducible refine' VT.r_notN ?_ | with_reducible refine' VT.r_meth ?_ | with_reducible refine' VT.r_make ?_
  | ((with_reducible refine' VT.r_tyL ?s ?_); (case s => walk_at "sq")) | ((with_reducible refine' VT.r_app ?h ?z ?_); (case h => walk_at "hp"); (case z => walk_at "len")) | ((with_reducible refine' VT.r_fldR ?h ?c ?n ?_); (case h => walk_at "hp"); (case c => assumption); (case n => assumption)) | ((with_reducible refine' VT.r_methR ?h ?m ?_); (case h => walk_at "hp"); (case m => decide +kernel)) | ((with_reducible refine' VT.r_new ?z ?_); (case z => exact Nat.le_of_ble_eq_true rfl)))
local macro_rules | `(tactic| walk_at "andor") => `(tactic| first | with_reducible refine' VT.r_and ?_ | with_reducible refine' VT.r_or ?_)
local macro_rules | `(tactic| walk_at "go") => `(tactic| repeat walk_at "go1")
local macro_rules | `(tactic| walk_at "at") => `(tactic| first | assumption | exact L2.atI_nat (by assumption) | exact VT.r_at (by assumption) (by assumption) | exact VT.r_at (by omega) (by assumption) | exact VT.r_at rfl (by assumption) | exact VT.r_at (j := 0) rfl rfl | exact VT.r_at (j := 1) rfl rfl | exact VT.r_at (j := 2) rfl rfl)
local macro_rules | `(tactic| walk_at "len") => `(tactic| (simp only [List.length_map, List.length_append, List.length_cons, List.length_nil, List.length_take, List.length_drop, List.length_replicate]; omega))
local macro_rules | `(tactic| walk_at "and") => `(tactic| ((with_reducible refine' VT.r_andD ?a ?b ?_); (case a => intro Z h; walk_at "go"; exact h); (case b => intro Z h; walk_at "go"; exact h)))
local macro_rules | `(tactic| walk_at "or") => `(tactic| ((with_reducible refine' VT.r_orD ?a ?b ?_); (case a => intro Z h; walk_at "go"; exact h); (case b => intro Z h; walk_at "go"; exact h)))
local macro_rules | `(tactic| walk_at "and") => `(tactic| ((with_reducible refine' VT.r_andD ?a ?b ?_); (case a => (intro Z h); (walk_at "go"); exact h); (case b => (intro Z h); (walk_at "go"); exact h)))
local macro_rules | `(tactic| walk_at "or") => `(tactic| ((with_reducible refine' VT.r_orD ?a ?b ?_); (case a => (intro Z h); (walk_at "go"); exact h); (case b => (intro Z h); (walk_at "go"); exact h)))
namespace VT
open PySem PySem.Spec PyProof.Rows L2
def top (i : Nat) : Stmt := PySem.Challenge.pw_valleytree_k14_whole_cut_and_joined.main.body.getD i (.Pass ⟨0, 0, 0, 0⟩)
abbrev s_Row___init__ : Stmt := inClass (top 9) 0
abbrev s_Row_ask : Stmt := inClass (top 9) 1
abbrev s_Row_ask_stretch : Stmt := inClass (top 9) 2
abbrev s_Row_numbers : Stmt := inClass (top 9) 3
abbrev s_Row_cut : Stmt := inClass (top 9) 8
abbrev s_joined : Stmt := top 10
abbrev s_least : Stmt := top 12
abbrev s_lesser_ahead : Stmt := top 13
abbrev s_ask_sky : Stmt := top 15
abbrev s_widest : Stmt := top 16
abbrev s_over : Stmt := top 18
abbrev s_tree_over : Stmt := top 19
abbrev s_tree_of : Stmt := top 20
abbrev s__law_cell_at : Stmt := top 22
abbrev s__law_draw : Stmt := top 24
abbrev s__law_row : Stmt := top 25
abbrev s_law : Stmt := top 27
structure Txt (K : PySem.W.Frag) (mg : Str → Option Value) (C : Addr) : Prop where
  cl : Cls K C
  nK : NoAttr K C "kept"
  mgC : mg "Row" = some (.ref C)
  b_abs : mg "abs" = none
  b_len : mg "len" = none
  b_list : mg "list" = none
  b_min : mg "min" = none
  b_range : mg "range" = none
  g_MOST : ∃ u, mg "MOST" = some u ∧ RelV (.int 40) u
section
variable {P : Program} {w : World} {K : PySem.W.Frag} {mg : Str → Option Value} {base : Heap} {C : Addr}
theorem sc_Row___init__ : FnScope ["self", "numbers"] ["self", "numbers"] (defScope s_Row___init__) := ⟨rfl, rfl, rfl, by decide +kernel, rfl, by decide +kernel, by decide +kernel⟩
def sp_Row___init__ (K : PySem.W.Frag) (C : Addr) : Sp := fun vs H Q _ => ∃ (p dx a : Addr) (ns : List Int), vs = [.ref p, .ref a] ∧ H p = some (.ins C dx []) ∧ SqL K H a (ns.map V.int) ∧ ns.length ≤ 40 ∧
  ∀ (l : Addr) (H' : Hp), H l = none → But p H H' → H' p = some (.ins C dx (rowF l)) → H' l = some (.lst (ns.map V.int)) → Q .non H'
theorem ok_Row___init__ {f : Addr} {fd : FuncData} (F : Fun K "__init__" "Row.__init__" s_Row___init__ f fd) (T : Txt K mg C)  : FnOk P w K mg base CX0 1 f fd ["self", "numbers"] (sp_Row___init__ K C) := by
  refine F.ok sc_Row___init__ (fun vs H Q E h => ?_) (fun cdv A outer s H vs Q E hr h => ?_)
  · obtain ⟨p, dx, a, ns, rfl, hp, hS, hl, q⟩ := h
    rfl
  · obtain ⟨p, dx, a, ns, rfl, hp, hS, hl, q⟩ := h
    have hcl := T.cl
    have hnK := T.nK
    refine ⟨_, (pss_cons (ps_if (pt_cmpR op_gt (pe_callB c_len (by rfl) T.b_len PySem.boot_len (pa_cons (pv 1) pa_nil)) (C8.pe_gc (v := .int 40) (by rfl) T.g_MOST) (nomark _)) (pss_one ps_never) pss_nil)
      (pss_one (ps_fld (pv 0) (pe_callTy c_listOf (by rfl) T.b_list (by decide +kernel) (pa_cons (pv 1) pa_nil)) rfl))), ?_⟩
    walk_at "go"
    try rw [List.length_map]
    refine brF (by omega) ?_
    walk_at "go"
    refine r_listOf hS fun l nl => ?_
    walk_at "go"
    have npl : p ≠ l := ne_of_none hp nl
    refine ⟨p, C, dx, [], rfl, up_get npl hp, T.cl, T.nK, (by show 0 < 1000; decide), ?_⟩
    exact q l _ nl (But.of (same_new nl _)).up upd_same (up_get npl.symm upd_same)
/-- Row(..) of a readable list of numbers -/
theorem mk_row {K : PySem.W.Frag} {C a : Addr} {ns : List Int} {H : Hp} {N : Addr → Hp → Prop} {E : XK} (hS : SqL K H a (ns.map V.int)) (hl : ns.length ≤ 40)
    (q : ∀ (x l d : Addr) (H' : Hp), Same H H' → H x = none → H l = none → x ≠ l → H' x = some (.ins C d (rowF l)) → H' l = some (.lst (ns.map V.int)) → N x H') :
    ∀ x dx, H x = none → H dx = none → dx ≠ x → sp_Row___init__ K C (.ref x :: ([.ref a] ++ [])) (upd (upd H dx (.own x)) x (.ins C dx [])) (fun v H2 => v = .non ∧ N x H2) E := by
  intro x dx nx ndx nex
  have s0 : Same H (upd (upd H dx (.own x)) x (.ins C dx [])) := fun b o e => by
    rw [upd_ne (ne_of_none e nx), upd_ne (ne_of_none e ndx)]
    exact e
  refine ⟨x, dx, a, ns, rfl, upd_same, s0.seq hS, hl, fun l H' nl b hx hL => ⟨rfl, ?_⟩⟩
  exact q x l dx H' (same_made nx ndx b) nx (s0.free nl) (ne_of_none upd_same nl) hx hL
theorem sc_Row_ask : FnScope ["self", "place", "many"] ["self", "place", "many"] (defScope s_Row_ask) := ⟨rfl, rfl, rfl, by decide +kernel, rfl, by decide +kernel, by decide +kernel⟩
def sp_Row_ask (_ : PySem.W.Frag) (_ : Addr) : Sp := fun vs H Q _ => ∃ (x : V) (i m : Int), vs = [x, .int i, .int m] ∧ 0 ≤ i ∧ i < m ∧ Q .non H
theorem ok_Row_ask {f : Addr} {fd : FuncData} (F : Fun K "ask" "Row.ask" s_Row_ask f fd) (T : Txt K mg C)  : FnOk P w K mg base CX0 1 f fd ["self", "place", "many"] (sp_Row_ask K C) := by
  refine F.ok sc_Row_ask (fun vs H Q E h => ?_) (fun cdv A outer s H vs Q E hr h => ?_)
  · obtain ⟨x, i, m, rfl, h0, h1, q⟩ := h
    rfl
  · obtain ⟨x, i, m, rfl, h0, h1, q⟩ := h
    have hcl := T.cl
    have hnK := T.nK
    refine ⟨_, (pss_one (ps_if (pt_not (pt_chain op_le op_lt pe_int (pv 1) (pv 2))) (pss_one ps_never) pss_nil)), ?_⟩
    walk_at "go"
    refine brT (by omega) ?_
    walk_at "go"
    rw [decide_eq_true h1]
    refine iteF ?_
    walk_at "go"
    exact q
theorem sc_Row_ask_stretch : FnScope ["self", "first", "behind"] ["self", "first", "behind"] (defScope s_Row_ask_stretch) := ⟨rfl, rfl, rfl, by decide +kernel, rfl, by decide +kernel, by decide +kernel⟩
def sp_Row_ask_stretch (_ : PySem.W.Frag) (C : Addr) : Sp := fun vs H Q _ => ∃ (p dx l : Addr) (ns : List Int) (i j : Int), vs = [.ref p, .int i, .int j] ∧ H p = some (.ins C dx (rowF l)) ∧ H l = some (.lst (ns.map V.int)) ∧ 0 ≤ i ∧ i < j ∧ j ≤ (ns.length : Int) ∧ Q .non H
theorem ok_Row_ask_stretch {f : Addr} {fd : FuncData} (F : Fun K "ask_stretch" "Row.ask_stretch" s_Row_ask_stretch f fd) (T : Txt K mg C)  : FnOk P w K mg base CX0 1 f fd ["self", "first", "behind"] (sp_Row_ask_stretch K C) := by
  refine F.ok sc_Row_ask_stretch (fun vs H Q E h => ?_) (fun cdv A outer s H vs Q E hr h => ?_)
  · obtain ⟨p, dx, l, ns, i, j, rfl, hp, hL, h0, h1, h2, q⟩ := h
    rfl
  · obtain ⟨p, dx, l, ns, i, j, rfl, hp, hL, h0, h1, h2, q⟩ := h
    have hcl := T.cl
    have hnK := T.nK
    refine ⟨_, (pss_one (ps_if (pt_not (pt_chain3 op_le op_lt op_le pe_int (pv 1) (pv 2) (pe_callB c_len (by rfl) T.b_len PySem.boot_len (pa_cons (pe_fld (pv 0) rfl) pa_nil)))) (pss_one ps_never) pss_nil)), ?_⟩
    walk_at "go"
    refine brT (by omega) ?_
    walk_at "go"
    refine brT (by omega) ?_
    walk_at "go"
    rw [decide_eq_true h2]
    refine iteF ?_
    walk_at "go"
    exact q
theorem sc_Row_numbers : FnScope ["self"] ["self"] (defScope s_Row_numbers) := ⟨rfl, rfl, rfl, by decide +kernel, rfl, by decide +kernel, by decide +kernel⟩
def sp_Row_numbers (_ : PySem.W.Frag) (C : Addr) : Sp := fun vs H Q _ => ∃ (p dx l : Addr) (ns : List Int), vs = [.ref p] ∧ H p = some (.ins C dx (rowF l)) ∧ H l = some (.lst (ns.map V.int)) ∧
  ∀ (a : Addr), H a = none → Q (.ref a) (upd H a (.lst (ns.map V.int)))
theorem ok_Row_numbers {f : Addr} {fd : FuncData} (F : Fun K "numbers" "Row.numbers" s_Row_numbers f fd) (T : Txt K mg C)  : FnOk P w K mg base CX0 1 f fd ["self"] (sp_Row_numbers K C) := by
  refine F.ok sc_Row_numbers (fun vs H Q E h => ?_) (fun cdv A outer s H vs Q E hr h => ?_)
  · obtain ⟨p, dx, l, ns, rfl, hp, hL, q⟩ := h
    rfl
  · obtain ⟨p, dx, l, ns, rfl, hp, hL, q⟩ := h
    have hcl := T.cl
    have hnK := T.nK
    refine ⟨_, (pss_one (ps_ret (pe_callTy c_listOf (by rfl) T.b_list (by decide +kernel) (pa_cons (pe_fld (pv 0) rfl) pa_nil)))), ?_⟩
    walk_at "go"
    refine r_listOf (VT.SqL.lst hL) fun a na => ?_
    exact q a na
theorem sc_Row_cut : FnScope ["self", "place"] ["self", "place"] (defScope s_Row_cut) := ⟨rfl, rfl, rfl, by decide +kernel, rfl, by decide +kernel, by decide +kernel⟩
def sp_Row_cut (_ : PySem.W.Frag) (C : Addr) : Sp := fun vs H Q _ => ∃ (p dx l : Addr) (ns : List Int) (i : Int), vs = [.ref p, .int i] ∧ H p = some (.ins C dx (rowF l)) ∧ H l = some (.lst (ns.map V.int)) ∧ ns.length ≤ 40 ∧ 0 ≤ i ∧ i ≤ (ns.length : Int) ∧
  ∀ (t p1 l1 d1 p2 l2 d2 : Addr) (H' : Hp), Same H H' → H p1 = none → H l1 = none → H p2 = none → H l2 = none → p1 ≠ p2 → p1 ≠ l2 → l1 ≠ p2 → l1 ≠ l2 → p1 ≠ l1 → p2 ≠ l2 → H' t = some (.tup [.ref p1, .ref p2]) →
    H' p1 = some (.ins C d1 (rowF l1)) → H' l1 = some (.lst ((ns.take i.toNat).map V.int)) → H' p2 = some (.ins C d2 (rowF l2)) → H' l2 = some (.lst ((ns.drop i.toNat).map V.int)) → Q (.ref t) H'
theorem ok_Row_cut {f : Addr} {fd : FuncData} (F : Fun K "cut" "Row.cut" s_Row_cut f fd) (T : Txt K mg C) (c_Row : C8.Mak P w K mg base 1 "Row" C (sp_Row___init__ K C) []) (c_Row_ask : C8.Met P w K mg base 1 C "ask" (sp_Row_ask K C) []) : FnOk P w K mg base CX0 3 f fd ["self", "place"] (sp_Row_cut K C) := by
  refine F.ok sc_Row_cut (fun vs H Q E h => ?_) (fun cdv A outer s H vs Q E hr h => ?_)
  · obtain ⟨p, dx, l, ns, i, rfl, hp, hL, hn, h0, h1, q⟩ := h
    rfl
  · obtain ⟨p, dx, l, ns, i, rfl, hp, hL, hn, h0, h1, q⟩ := h
    have hcl := T.cl
    have hnK := T.nK
    refine ⟨_, (pss_cons (ps_expr (C8.pe_mt c_Row_ask hr (by decide) (pv 0) (pa_cons (pv 1) (pa_cons (pe_op op_add (pe_callB c_len (by rfl) T.b_len PySem.boot_len (pa_cons (pe_fld (pv 0) rfl) pa_nil)) pe_int) pa_nil))))
      (pss_one (ps_ret (pe_tup (pa_cons (C8.pe_mk c_Row hr (by decide) rfl (pa_cons (pe_slice sl_list (pe_fld (pv 0) rfl) po_none (po_some (pv 1))) pa_nil)) (pa_cons (C8.pe_mk c_Row hr (by decide) rfl (pa_cons (pe_slice sl_list (pe_fld (pv 0) rfl) (po_some (pv 1)) po_none) pa_nil)) pa_nil)))))), ?_⟩
    walk_at "go"
    refine ⟨_, _, _, rfl, h0, (by omega), ?_⟩
    walk_at "go"
    refine r_slL (VT.SqL.lst hL) fun t1 n1 => ?_
    rw [cut_takeI h0 h1]
    walk_at "go"
    have sA := same_new n1 (.lst ((ns.take i.toNat).map V.int))
    refine mk_row (ns := ns.take i.toNat) (VT.SqL.lst upd_same) (by rw [List.length_take]; omega) fun x1 l1 d1 H1 s1 nx1 nl1 ne1 hx1 hL1 => ?_
    have hp1 : H1 p = some (.ins C dx (rowF l)) := s1 _ _ (sA _ _ hp)
    have hL1' : H1 l = some (.lst (ns.map V.int)) := s1 _ _ (sA _ _ hL)
    walk_at "go"
    refine r_slL (VT.SqL.lst hL1') fun t2 n2 => ?_
    rw [cut_dropI h0 h1]
    walk_at "go"
    have sB := same_new n2 (.lst ((ns.drop i.toNat).map V.int))
    refine mk_row (ns := ns.drop i.toNat) (VT.SqL.lst upd_same) (by rw [List.length_drop]; omega) fun x2 l2 d2 H2 s2 nx2 nl2 ne2 hx2 hL2 => ?_
    walk_at "go"
    intro t nt
    have s01 : Same H H1 := sA.trans s1
    have s12 : Same H1 H2 := sB.trans s2
    have s23 := same_new nt (.tup [V.ref x1, V.ref x2])
    refine q t x1 l1 d1 x2 l2 d2 _ ((s01.trans s12).trans s23) (sA.free nx1) (sA.free nl1) (s01.free (sB.free nx2)) (s01.free (sB.free nl2)) (ne_of_none hx1 (sB.free nx2)) (ne_of_none hx1 (sB.free nl2)) (ne_of_none hL1 (sB.free nx2)) (ne_of_none hL1 (sB.free nl2)) ne1 ne2 upd_same (s23 _ _ (s12 _ _ hx1)) (s23 _ _ (s12 _ _ hL1)) (s23 _ _ hx2) (s23 _ _ hL2)
theorem sc_joined : FnScope ["one", "other"] ["one", "other"] (defScope s_joined) := ⟨rfl, rfl, rfl, by decide +kernel, rfl, by decide +kernel, by decide +kernel⟩
def sp_joined (_ : PySem.W.Frag) (C : Addr) : Sp := fun vs H Q _ => ∃ (p dx l p' dx' l' : Addr) (ns ms : List Int), vs = [.ref p, .ref p'] ∧ H p = some (.ins C dx (rowF l)) ∧ H l = some (.lst (ns.map V.int)) ∧ H p' = some (.ins C dx' (rowF l')) ∧ H l' = some (.lst (ms.map V.int)) ∧ ns.length + ms.length ≤ 40 ∧
  ∀ (r rl d : Addr) (H' : Hp), Same H H' → H r = none → H rl = none → r ≠ rl → H' r = some (.ins C d (rowF rl)) → H' rl = some (.lst ((ns ++ ms).map V.int)) → Q (.ref r) H'
theorem ok_joined {f : Addr} {fd : FuncData} (F : Fun K "joined" "joined" s_joined f fd) (T : Txt K mg C) (c_Row : C8.Mak P w K mg base 1 "Row" C (sp_Row___init__ K C) []) (c_Row_numbers : C8.Met P w K mg base 1 C "numbers" (sp_Row_numbers K C) []) : FnOk P w K mg base CX0 3 f fd ["one", "other"] (sp_joined K C) := by
  refine F.ok sc_joined (fun vs H Q E h => ?_) (fun cdv A outer s H vs Q E hr h => ?_)
  · obtain ⟨p, dx, l, p', dx', l', ns, ms, rfl, hp, hL, hp', hL', hn, q⟩ := h
    rfl
  · obtain ⟨p, dx, l, p', dx', l', ns, ms, rfl, hp, hL, hp', hL', hn, q⟩ := h
    have hcl := T.cl
    have hnK := T.nK
    refine ⟨_, (pss_one (ps_ret (C8.pe_mk c_Row hr (by decide) rfl (pa_cons (pe_op op_cat (C8.pe_mt0 c_Row_numbers hr (by decide) (pv 0)) (C8.pe_mt0 c_Row_numbers hr (by decide) (pv 1))) pa_nil)))), ?_⟩
    walk_at "go"
    refine ⟨p, dx, l, ns, rfl, hp, hL, fun a na => ?_⟩
    have sA := same_new na (.lst (ns.map V.int))
    have hpA := sA _ _ hp'
    have hLA := sA _ _ hL'
    walk_at "go"
    refine ⟨p', dx', l', ms, rfl, hpA, hLA, fun b nb => ?_⟩
    have sB := same_new nb (.lst (ms.map V.int))
    walk_at "go"
    refine r_cat (sB _ _ upd_same) upd_same (by rw [List.length_map, List.length_map]; omega) fun c nc => ?_
    rw [← List.map_append]
    have sC := same_new nc (.lst ((ns ++ ms).map V.int))
    walk_at "go"
    refine mk_row (VT.SqL.lst upd_same) (by rw [List.length_append]; exact hn) fun x l2 d H1 s1 nx nl ne hx hL2 => ?_
    exact q x l2 d H1 (((sA.trans sB).trans sC).trans s1) (sA.free (sB.free (sC.free nx))) (sA.free (sB.free (sC.free nl))) ne hx hL2
theorem sc_least : FnScope ["row", "first", "behind", "numbers", "low"] ["row", "first", "behind"] (defScope s_least) := ⟨rfl, rfl, rfl, by decide +kernel, rfl, by decide +kernel, by decide +kernel⟩
def sp_least (_ : PySem.W.Frag) (C : Addr) : Sp := fun vs H Q _ => ∃ (p dx l : Addr) (ns : List Int) (i j : Int), vs = [.ref p, .int i, .int j] ∧ H p = some (.ins C dx (rowF l)) ∧ H l = some (.lst (ns.map V.int)) ∧ ns.length ≤ 40 ∧ 0 ≤ i ∧ i < j ∧ j ≤ (ns.length : Int) ∧
  ∀ (t : Addr) (H' : Hp) (m : Int) (a : Nat), Same H H' → H t = none → H' t = some (.tup [.int m, .int (a : Int)]) → IsLeast ns i.toNat j.toNat m a → Q (.ref t) H'
theorem ok_least {f : Addr} {fd : FuncData} (F : Fun K "least" "least" s_least f fd) (T : Txt K mg C) (c_Row_numbers : C8.Met P w K mg base 1 C "numbers" (sp_Row_numbers K C) []) (c_Row_ask_stretch : C8.Met P w K mg base 1 C "ask_stretch" (sp_Row_ask_stretch K C) []) : FnOk P w K mg base CX0 2 f fd ["row", "first", "behind"] (sp_least K C) := by
  refine F.ok sc_least (fun vs H Q E h => ?_) (fun cdv A outer s H vs Q E hr h => ?_)
  · obtain ⟨p, dx, l, ns, i, j, rfl, hp, hL, hn, h0, h1, h2, q⟩ := h
    rfl
  · obtain ⟨p, dx, l, ns, i, j, rfl, hp, hL, hn, h0, h1, h2, q⟩ := h
    have hcl := T.cl
    have hnK := T.nK
    refine ⟨_, (pss_cons (ps_expr (C8.pe_mt c_Row_ask_stretch hr (by decide) (pv 0) (pa_cons (pv 1) (pa_cons (pv 2) pa_nil))))
      (pss_cons (ps_set (i := 3) sc_least.nd rfl (by first | exact Or.inl rfl | exact Or.inr rfl) (C8.pe_mt0 c_Row_numbers hr (by decide) (pv 0)))
      (pss_cons (ps_set (i := 4) sc_least.nd rfl (by first | exact Or.inl rfl | exact Or.inr rfl) (pe_callB (cr_min rfl) (by rfl) T.b_min (by decide +kernel) (pa_cons (pe_slice sl_list (pv 3) (po_some (pv 1)) (po_some (pv 2))) pa_nil)))
      (pss_one (ps_ret (pe_tup (pa_cons (pv 4) (pa_cons (pe_bm PySem.F.plainAttrs_list PySem.F.slot_list_index PySem.F.type_list_index mt_index3 (pv 3) (pa_cons (pv 4) (pa_cons (pv 1) pa_nil))) pa_nil)))))))), ?_⟩
    walk_at "go"
    refine ⟨p, dx, l, ns, i, j, rfl, hp, hL, h0, h1, h2, ?_⟩
    walk_at "go"
    refine ⟨p, dx, l, ns, rfl, hp, hL, fun x nx => ?_⟩
    have sA := same_new nx (.lst (ns.map V.int))
    walk_at "go"
    refine r_slL (VT.SqL.lst upd_same) fun y ny => ?_
    rw [cut_midI h0 (by omega) (by omega) h2]
    have sB := same_new ny (.lst (((ns.drop i.toNat).take (j.toNat - i.toNat)).map V.int))
    walk_at "go"
    refine r_min (VT.SqL.lst upd_same) (by rw [List.length_take, List.length_drop]; omega) fun m hm hle => ?_
    obtain ⟨a, ha, hf⟩ := least_of_min hm hle
    walk_at "go"
    refine r_index3 (VT.SqL.lst (sB _ _ upd_same)) h0 ha.lo ha.val hf ?_
    walk_at "go"
    intro t nt
    have sC := same_new nt (.tup [V.int m, V.int (a : Int)])
    exact q t _ m a ((sA.trans sB).trans sC) ((sA.trans sB).free nt) upd_same ha
theorem sc_lesser_ahead : FnScope ["row", "numbers", "found", "pile", "place"] ["row"] (defScope s_lesser_ahead) := ⟨rfl, rfl, rfl, by decide +kernel, rfl, by decide +kernel, by decide +kernel⟩
def sp_lesser_ahead (_ : PySem.W.Frag) (C : Addr) : Sp := fun vs H Q _ => ∃ (p dx l : Addr) (ns : List Int), vs = [.ref p] ∧ H p = some (.ins C dx (rowF l)) ∧ H l = some (.lst (ns.map V.int)) ∧ ns.length ≤ 40 ∧
  ∀ (x : Addr) (H' : Hp), H x = none → Same H H' → H' x = some (.lst (nearsA ns ns.length)) → Q (.ref x) H'
theorem ok_lesser_ahead {f : Addr} {fd : FuncData} (F : Fun K "lesser_ahead" "lesser_ahead" s_lesser_ahead f fd) (T : Txt K mg C) (c_Row_numbers : C8.Met P w K mg base 1 C "numbers" (sp_Row_numbers K C) []) : FnOk P w K mg base CX0 2 f fd ["row"] (sp_lesser_ahead K C) := by
  refine F.ok sc_lesser_ahead (fun vs H Q E h => ?_) (fun cdv A outer s H vs Q E hr h => ?_)
  · obtain ⟨p, dx, l, ns, rfl, hp, hL, hn, q⟩ := h
    rfl
  · obtain ⟨p, dx, l, ns, rfl, hp, hL, hn, q⟩ := h
    have hcl := T.cl
    have hnK := T.nK
    refine ⟨_, (pss_cons (ps_set (i := 1) sc_lesser_ahead.nd rfl (by first | exact Or.inl rfl | exact Or.inr rfl) (C8.pe_mt0 c_Row_numbers hr (by decide) (pv 0)))
      (pss_cons (ps_set (i := 2) sc_lesser_ahead.nd rfl (by first | exact Or.inl rfl | exact Or.inr rfl) (pe_lst pa_nil))
      (pss_cons (ps_set (i := 3) sc_lesser_ahead.nd rfl (by first | exact Or.inl rfl | exact Or.inr rfl) (pe_lst pa_nil))
      (pss_cons (ps_for PassesOwn.never rfl (pi_range1 (by rfl) T.b_range (pa_cons (pe_callB c_len (by rfl) T.b_len PySem.boot_len (pa_cons (pv 1) pa_nil)) pa_nil)) (pg_name (i := 4) sc_lesser_ahead.nd rfl (by first | exact Or.inl rfl | exact Or.inr rfl)) (C8.pss_cut (ps_while PassesOwn.never (PW.pt (pw_and (pt_cmpR op_gt (pe_callB c_len (by rfl) T.b_len PySem.boot_len (pa_cons (pv 3) pa_nil)) pe_int (nomark _)) (pw_and1 (pt_cmpR op_ge (pe_ix ix_list (pv 1) (pe_ix ix_list (pv 3) (pe_un un_neg pe_int) (fun _ _ => rfl)) (fun _ _ => rfl)) (pe_ix ix_list (pv 1) (pv 4) (fun _ _ => rfl)) (nomark _))))) (pss_one (ps_expr (pe_bm0 PySem.F.plainAttrs_list PySem.F.slot_list_pop PySem.F.type_list_pop mt_pop (pv 3)))))
      (pss_cons (ps_expr (pe_bm PySem.F.plainAttrs_list PySem.F.slot_list_append PySem.F.type_list_append mt_append (pv 2) (pa_cons (pe_ifExp (pt_cmpR op_gt (pe_callB c_len (by rfl) T.b_len PySem.boot_len (pa_cons (pv 3) pa_nil)) pe_int (nomark _)) (pe_ix ix_list (pv 3) (pe_un un_neg pe_int) (fun _ _ => rfl)) pe_non) pa_nil)))
      (pss_one (ps_expr (pe_bm PySem.F.plainAttrs_list PySem.F.slot_list_append PySem.F.type_list_append mt_append (pv 3) (pa_cons (pv 4) pa_nil)))))))
      (pss_one (ps_ret (pv 2))))))), ?_⟩
    walk_at "go"
    refine ⟨p, dx, l, ns, rfl, hp, hL, fun n nn => ?_⟩
    have sA := same_new nn (.lst (ns.map V.int))
    walk_at "go"
    intro f nf
    have sB := same_new nf (.lst [])
    walk_at "go"
    intro u nu
    have sC := same_new nu (.lst [])
    have hN := sC _ _ (sB _ _ (@upd_same H n (.lst (ns.map V.int))))
    have hF := sC _ _ (@upd_same (upd H n (.lst (ns.map V.int))) f (.lst []))
    have hU := @upd_same (upd (upd H n (.lst (ns.map V.int))) f (.lst [])) u (.lst [])
    have nfn : n ≠ f := ne_of_none upd_same nf
    have nun : n ≠ u := ne_of_none (sB _ _ upd_same) nu
    have nuf : f ≠ u := ne_of_none upd_same nu
    have fr1 : H f = none := sA.free nf
    have fr2 : H u = none := sA.free (sB.free nu)
    have s0 : Same H _ := (sA.trans sB).trans sC
    generalize upd (upd (upd H n (.lst (ns.map V.int))) f (.lst [])) u (.lst []) = H0 at hN hF hU s0
    walk_at "go"
    refine r_loop0 (fun k σ H' => ∃ (pl : List Nat) (v : Option V), σ = [some (.ref p), some (.ref n), some (.ref f), some (.ref u), v] ∧ Same H H' ∧ H' n = some (.lst (ns.map V.int)) ∧ H' f = some (.lst (nearsA ns k)) ∧ H' u = some (.lst (pl.map fun (n : Nat) => V.int (n : Int))) ∧ PileW ns k none pl ∧ pl.length ≤ k) ?_ ?_ ?_
    · exact ⟨[], _, rfl, s0, hN, hF, hU, PileW.start, Nat.le_refl _⟩
    · rintro k σ H1 hk ⟨pl, v, rfl, s1, hN, hF, hU, hP, hpl⟩
      have hk' : k < ns.length := by omega
      have hK : (ns.map V.int)[k]? = some (.int (ns.getD k 0)) := by
        rw [List.getElem?_map, getD_at' hk'] <;> rfl
      walk_at "go"
      refine r_cut (fun σ H' => ∃ pl : List Nat, σ = [some (.ref p), some (.ref n), some (.ref f), some (.ref u), some (.int (k : Int))] ∧ Same H H' ∧ H' n = some (.lst (ns.map V.int)) ∧ H' f = some (.lst (nearsA ns k)) ∧ H' u = some (.lst (pl.map fun (n : Nat) => V.int (n : Int))) ∧ PileW ns k (some (ns.getD k 0)) pl ∧ pl.length ≤ k ∧ ∀ r t, pl = r ++ [t] → ¬ ns.getD k 0 ≤ ns.getD t 0) ?_ ?_
      · refine r_while (fun m σ H' => ∃ pl : List Nat, pl.length = m ∧ m ≤ k ∧ σ = [some (.ref p), some (.ref n), some (.ref f), some (.ref u), some (.int (k : Int))] ∧ Same H H' ∧ H' n = some (.lst (ns.map V.int)) ∧ H' f = some (.lst (nearsA ns k)) ∧ H' u = some (.lst (pl.map fun (n : Nat) => V.int (n : Int))) ∧ PileW ns k (some (ns.getD k 0)) pl) pl.length ⟨pl, rfl, hpl, rfl, s1, hN, hF, hU, hP.begin _⟩ ?_
        rintro m σ H2 ⟨pl, hm, hmk, rfl, s2, hN, hF, hU, hP⟩
        walk_at "go"
        walk_at "andor"
        walk_at "go"
        rw [natmap_len]
        refine brD (fun c => ?_) (fun c => ?_)
        · obtain ⟨r, t, rfl⟩ := concat_of (l := pl) (fun e => by rw [e] at c; exact absurd c (by decide))
          have ht : t < k := hP.lt t (List.mem_append_right _ (List.mem_singleton.mpr rfl))
          have hT : (ns.map V.int)[t]? = some (.int (ns.getD t 0)) := by
            rw [List.getElem?_map, getD_at' (by omega)] <;> rfl
          walk_at "go"
          refine pile_last hU ?_
          walk_at "go"
          refine brD (fun c2 => ?_) (fun c2 => ?_)
          · refine r_wh ?_
            walk_at "go"
            refine r_popN hU ?_
            exact ⟨r.length, by rw [← hm, List.length_append]; exact Nat.lt_succ_self _, r, rfl, by rw [← hm, List.length_append] at hmk; omega, rfl, same_mut s2 fr2, up_get nun hN, up_get nuf hF, upd_same, hP.pop c2⟩
          · refine ⟨_, rfl, s2, hN, hF, hU, hP, by omega, fun r' t' e => ?_⟩
            have e2 := List.append_inj_right' e rfl
            have e3 : t = t' := by simpa using e2
            rw [← e3]
            exact c2
        · have e : pl = [] := by
            cases pl with
            | nil => rfl
            | cons a b => exact absurd (by rw [List.length_cons]; omega) c
          subst e
          exact ⟨[], rfl, s2, hN, hF, hU, hP, Nat.zero_le _, fun r t e => by simp at e⟩
      · rintro σ H2 ⟨pl, rfl, s2, hN, hF, hU, hP, hpl, hv⟩
        walk_at "go"
        rw [natmap_len]
        have z1 := (nears_len ns k).1
        refine brD (fun c => ?_) (fun c => ?_)
        · obtain ⟨r, t, rfl⟩ := concat_of (l := pl) (fun e => by rw [e] at c; exact absurd c (by decide))
          walk_at "go"
          refine pile_last hU ?_
          walk_at "go"
          refine r_app hF (by rw [z1]; omega) ?_
          walk_at "go"
          refine r_app (up_get nuf.symm hU) (by rw [natmap_len]; omega) ?_
          rw [pile_push, show V.int (t : Int) = optV (nearA ns k) by rw [hP.top (hv r t rfl)] <;> rfl, ← nearsA_more]
          exact ⟨_, _, rfl, same_mut (same_mut s2 fr1) fr2, up_get nun (up_get nfn hN), up_get nuf upd_same, upd_same, hP.push, by rw [List.length_append, List.length_singleton]; omega⟩
        · have e : pl = [] := by
            cases pl with
            | nil => rfl
            | cons a b => exact absurd (by rw [List.length_cons]; omega) c
          subst e
          walk_at "go"
          refine r_app hF (by rw [z1]; omega) ?_
          walk_at "go"
          rw [pile_push, show V.non = optV (nearA ns k) by rw [hP.empty] <;> rfl, ← nearsA_more]
          exact ⟨_, _, rfl, same_mut (same_mut s2 fr1) fr2, up_get nun (up_get nfn hN), up_get nuf upd_same, upd_same, hP.push, by rw [List.length_append, List.length_singleton]; omega⟩
    · rintro σ H1 ⟨pl, v, rfl, s1, hN, hF, hU, hP, hpl⟩
      walk_at "go"
      exact q f H1 fr1 s1 hF
theorem sc_ask_sky : FnScope ["numbers", "number"] ["numbers"] (defScope s_ask_sky) := ⟨rfl, rfl, rfl, by decide +kernel, rfl, by decide +kernel, by decide +kernel⟩
def sp_ask_sky (K : PySem.W.Frag) (_ : Addr) : Sp := fun vs H Q _ => ∃ (a : Addr) (ns : List Int), vs = [.ref a] ∧ SqL K H a (ns.map V.int) ∧ (∀ x ∈ ns, 0 ≤ x) ∧ Q .non H
theorem ok_ask_sky {f : Addr} {fd : FuncData} (F : Fun K "ask_sky" "ask_sky" s_ask_sky f fd) (T : Txt K mg C)  : FnOk P w K mg base CX0 1 f fd ["numbers"] (sp_ask_sky K C) := by
  refine F.ok sc_ask_sky (fun vs H Q E h => ?_) (fun cdv A outer s H vs Q E hr h => ?_)
  · obtain ⟨a, ns, rfl, hS, hn, q⟩ := h
    rfl
  · obtain ⟨a, ns, rfl, hS, hn, q⟩ := h
    have hcl := T.cl
    have hnK := T.nK
    refine ⟨_, (pss_one (ps_for PassesOwn.never rfl (pi_list (pv 0)) (pg_name (i := 1) sc_ask_sky.nd rfl (by first | exact Or.inl rfl | exact Or.inr rfl)) (pss_one (ps_if (pt_cmpR op_lt (pv 1) pe_int (nomark _)) (pss_one ps_never) pss_nil)))), ?_⟩
    walk_at "go"
    refine r_loopI (ns := ns) (fun i σ H' => H' = H ∧ ∃ v, σ = [some (.ref a), v]) ⟨rfl, _, rfl⟩ (fun i σ H' _ hp => hp.1 ▸ hS) ?_ ?_
    · rintro i z σ H' hz ⟨rfl, v, rfl⟩
      have h0 := hn z (List.mem_of_getElem? hz)
      walk_at "go"
      refine brF (by omega) ?_
      walk_at "go"
      exact ⟨rfl, _, rfl⟩
    · rintro σ H' ⟨rfl, v, rfl⟩
      exact q
theorem minTo_step {ns : List Int} {i d : Nat} {z : Int} (ez : ns.getD (i + d) 0 = z) : (if z < minTo ns i (d - 1) then z else minTo ns i (d - 1)) = minTo ns i d := by
  cases d with
  | zero =>
    show (if z < ns.getD i 0 then z else ns.getD i 0) = ns.getD i 0
    rw [← ez, Nat.add_zero]
    split <;> rfl
  | succ d =>
    show (if z < minTo ns i d then z else minTo ns i d) = (if ns.getD (i + (d + 1)) 0 < minTo ns i d then ns.getD (i + (d + 1)) 0 else minTo ns i d)
    rw [ez]
theorem sc_widest : FnScope ["row", "numbers", "found", "first", "low", "behind"] ["row"] (defScope s_widest) := ⟨rfl, rfl, rfl, by decide +kernel, rfl, by decide +kernel, by decide +kernel⟩
def sp_widest (_ : PySem.W.Frag) (C : Addr) : Sp := fun vs H Q _ => ∃ (p dx l : Addr) (ns : List Int), vs = [.ref p] ∧ H p = some (.ins C dx (rowF l)) ∧ H l = some (.lst (ns.map V.int)) ∧ ns.length ≤ 40 ∧ 0 < ns.length ∧ (∀ x ∈ ns, 0 ≤ x) ∧
  ∀ (t : Addr) (H' : Hp) (i d : Nat), Same H H' → H t = none → H' t = some (.tup [.int (areaOf ns i d), .int (i : Int), .int ((i : Int) + 1 + (d : Int))]) → WideTo ns (fun _ _ => True) i d → Q (.ref t) H'
theorem ok_widest {f : Addr} {fd : FuncData} (F : Fun K "widest" "widest" s_widest f fd) (T : Txt K mg C) (c_ask_sky : C8.Cal P w K mg base 1 "ask_sky" (sp_ask_sky K C) []) (c_Row_numbers : C8.Met P w K mg base 1 C "numbers" (sp_Row_numbers K C) []) : FnOk P w K mg base CX0 2 f fd ["row"] (sp_widest K C) := by
  refine F.ok sc_widest (fun vs H Q E h => ?_) (fun cdv A outer s H vs Q E hr h => ?_)
  · obtain ⟨p, dx, l, ns, rfl, hp, hL, hn, hn0, hnn, q⟩ := h
    rfl
  · obtain ⟨p, dx, l, ns, rfl, hp, hL, hn, hn0, hnn, q⟩ := h
    have hcl := T.cl
    have hnK := T.nK
    refine ⟨_, (pss_cons (ps_set (i := 1) sc_widest.nd rfl (by first | exact Or.inl rfl | exact Or.inr rfl) (C8.pe_mt0 c_Row_numbers hr (by decide) (pv 0)))
      (pss_cons (ps_expr (C8.pe_c c_ask_sky hr (by decide) rfl (pa_cons (pv 1) pa_nil)))
      (pss_cons (ps_if (pt_cmpR op_eq (pe_callB c_len (by rfl) T.b_len PySem.boot_len (pa_cons (pv 1) pa_nil)) pe_int (nomark _)) (pss_one ps_never) pss_nil)
      (pss_cons (ps_set (i := 2) sc_widest.nd rfl (by first | exact Or.inl rfl | exact Or.inr rfl) (pe_tup (pa_cons (pe_ix ix_list (pv 1) pe_int (fun _ _ => rfl)) (pa_cons pe_int (pa_cons pe_int pa_nil)))))
      (pss_cons (ps_for PassesOwn.never rfl (pi_range1 (by rfl) T.b_range (pa_cons (pe_callB c_len (by rfl) T.b_len PySem.boot_len (pa_cons (pv 1) pa_nil)) pa_nil)) (pg_name (i := 3) sc_widest.nd rfl (by first | exact Or.inl rfl | exact Or.inr rfl)) (pss_cons (ps_set (i := 4) sc_widest.nd rfl (by first | exact Or.inl rfl | exact Or.inr rfl) (pe_ix ix_list (pv 1) (pv 3) (fun _ _ => rfl)))
      (pss_one (ps_for PassesOwn.never rfl (pi_range2 (by rfl) T.b_range (pa_cons (pe_op op_add (pv 3) pe_int) (pa_cons (pe_op op_add (pe_callB c_len (by rfl) T.b_len PySem.boot_len (pa_cons (pv 1) pa_nil)) pe_int) pa_nil))) (pg_name (i := 5) sc_widest.nd rfl (by first | exact Or.inl rfl | exact Or.inr rfl)) (pss_cons (ps_set (i := 4) sc_widest.nd rfl (by first | exact Or.inl rfl | exact Or.inr rfl) (pe_callB (c_min2 rfl) (by rfl) T.b_min (by decide +kernel) (pa_cons (pv 4) (pa_cons (pe_ix ix_list (pv 1) (pe_op op_sub (pv 5) pe_int) (fun _ _ => rfl)) pa_nil))))
      (pss_one (ps_if (pt_cmpR op_gt (pe_op op_mul (pv 4) (pe_op op_sub (pv 5) (pv 3))) (pe_ix ix_tup (pv 2) pe_int (fun _ _ => rfl)) (nomark _)) (pss_one (ps_set (i := 2) sc_widest.nd rfl (by first | exact Or.inl rfl | exact Or.inr rfl) (pe_tup (pa_cons (pe_op op_mul (pv 4) (pe_op op_sub (pv 5) (pv 3))) (pa_cons (pv 3) (pa_cons (pv 5) pa_nil)))))) pss_nil)))))))
      (pss_one (ps_ret (pv 2)))))))), ?_⟩
    walk_at "go"
    refine ⟨p, dx, l, ns, rfl, hp, hL, fun n nn => ?_⟩
    have sA := same_new nn (.lst (ns.map V.int))
    have hN := @upd_same H n (.lst (ns.map V.int))
    generalize upd H n (.lst (ns.map V.int)) = H0 at sA hN
    walk_at "go"
    refine ⟨n, ns, rfl, VT.SqL.lst hN, hnn, ?_⟩
    walk_at "go"
    refine brF (by omega) ?_
    have hI0 : (ns.map V.int)[0]? = some (.int (ns.getD 0 0)) := by
      rw [List.getElem?_map, getD_at' hn0] <;> rfl
    walk_at "go"
    intro t0 nt0
    have sB := same_new nt0 (.tup [V.int (ns.getD 0 0), V.int 0, V.int 1])
    have hT0 : upd H0 t0 (.tup [V.int (ns.getD 0 0), V.int 0, V.int 1]) t0 = some (.tup [V.int (areaOf ns 0 0), .int ((0 : Nat) : Int), .int (((0 : Nat) : Int) + 1 + ((0 : Nat) : Int))]) := by
      rw [upd_same]
      unfold areaOf minTo
      simp
    have fr0 : H t0 = none := sA.free nt0
    have hN1 := sB _ _ hN
    have s0 := sA.trans sB
    generalize upd H0 t0 (.tup [V.int (ns.getD 0 0), V.int 0, V.int 1]) = H1 at hT0 hN1 s0
    walk_at "go"
    refine r_loop0 (fun a σ H' => ∃ (t : Addr) (i d : Nat) (v1 v2 v3 : Option V), σ = [some (.ref p), some (.ref n), some (.ref t), v1, v2, v3] ∧ Same H H' ∧ H t = none ∧ H' n = some (.lst (ns.map V.int)) ∧ H' t = some (.tup [.int (areaOf ns i d), .int (i : Int), .int ((i : Int) + 1 + (d : Int))]) ∧ WideTo ns (upTo a 0) i d ∧ (i < a ∨ i = 0 ∧ d = 0)) ?_ ?_ ?_
    · exact ⟨t0, 0, 0, _, _, _, rfl, s0, fr0, hN1, hT0, WideTo.start hn0, .inr ⟨rfl, rfl⟩⟩
    · rintro a σ H2 ha ⟨t, i, d, v1, v2, v3, rfl, s2, frt, hN2, hT2, hW, hid⟩
      have ha' : a < ns.length := by omega
      have hI : (ns.map V.int)[a]? = some (.int (ns.getD a 0)) := by
        rw [List.getElem?_map, getD_at' ha'] <;> rfl
      walk_at "go"
      refine r_loopR (fun b σ H' => ∃ (t : Addr) (i d : Nat) (v3 : Option V), σ = [some (.ref p), some (.ref n), some (.ref t), some (.int (a : Int)), some (.int (minTo ns a (b - 1))), v3] ∧ Same H H' ∧ H t = none ∧ H' n = some (.lst (ns.map V.int)) ∧ H' t = some (.tup [.int (areaOf ns i d), .int (i : Int), .int ((i : Int) + 1 + (d : Int))]) ∧ WideTo ns (upTo a b) i d ∧ (i < a ∨ i = a ∧ d ≤ b ∨ i = 0 ∧ d = 0)) ?_ ?_ ?_
      · exact ⟨t, i, d, _, rfl, s2, frt, hN2, hT2, hW, hid.elim .inl (fun h => .inr (.inr h))⟩
      · rintro b σ H3 hb ⟨t, i, d, v3, rfl, s3, frt, hN3, hT3, hW, hid⟩
        have hb' : a + b < ns.length := by omega
        have hB : (ns.map V.int)[a + b]? = some (.int (ns.getD (a + b) 0)) := by
          rw [List.getElem?_map, getD_at' hb'] <;> rfl
        walk_at "go"
        refine r_ixL (VT.SqL.lst hN3) (r_at (j := a + b) (by omega) hB) ?_
        walk_at "go"
        refine r_min2 ?_
        rw [minTo_step rfl]
        walk_at "go"
        have ear : minTo ns a b * ((a : Int) + 1 + (b : Int) - (a : Int)) = areaOf ns a b := by
          unfold areaOf
          congr 1
          omega
        rw [ear]
        have elow : minTo ns a b = minTo ns a (b + 1 - 1) := rfl
        refine brD (fun c => ?_) (fun c => ?_)
        · walk_at "go"
          rw [ear]
          intro t2 nt2
          have sC := same_new nt2 (.tup [V.int (areaOf ns a b), V.int (a : Int), V.int ((a : Int) + 1 + (b : Int))])
          walk_at "go"
          exact ⟨t2, a, b, _, rfl, s3.trans sC, s3.free nt2, sC _ _ hN3, upd_same, hW.turn hb' c, .inr (.inl ⟨rfl, by omega⟩)⟩
        · walk_at "go"
          refine ⟨t, i, d, _, rfl, s3, frt, hN3, hT3, hW.keep ?_ c, ?_⟩
          · rcases hid with h | h | h
            · exact .inl h
            · exact .inr h
            · omega
          · rcases hid with h | h | h
            · exact .inl h
            · exact .inr (.inl ⟨h.1, by omega⟩)
            · exact .inr (.inr h)
      · rintro σ H3 ⟨t, i, d, v3, rfl, s3, frt, hN3, hT3, hW, hid⟩
        have e : ((ns.length : Int) + 1 - ((a : Int) + 1)).toNat = ns.length - a := by omega
        rw [e] at hW
        refine ⟨t, i, d, _, _, _, rfl, s3, frt, hN3, hT3, hW.row, ?_⟩
        omega
    · rintro σ H2 ⟨t, i, d, v1, v2, v3, rfl, s2, frt, hN2, hT2, hW, hid⟩
      have e : ((ns.length : Int)).toNat = ns.length := by omega
      rw [e] at hW
      walk_at "go"
      exact q t H2 i d s2 frt hT2 hW.fin
theorem sc_over : FnScope ["numbers", "first", "behind", "top", "found", "head"] ["numbers", "first", "behind", "top", "found"] (defScope s_over) := ⟨rfl, rfl, rfl, by decide +kernel, rfl, by decide +kernel, by decide +kernel⟩
def sp_over (K : PySem.W.Frag) (_ : Addr) (n : Nat) : Sp := fun vs H Q _ => ∃ (a f : Addr) (ns : List Int) (i j : Nat) (top : Option Nat) (xs : List V) (t : BT), vs = [.ref a, .int i, .int j, oV top, .ref f] ∧ SqL K H a (ns.map V.int) ∧ H f = some (.lst xs) ∧ a ≠ f ∧ xs.length = ns.length ∧ ns.length ≤ 63 ∧ j ≤ ns.length ∧ IsCart ns i j t ∧ j - i < n ∧
  ∀ H', But f H H' → H' f = some (.lst (splice xs i (t.codeV i top))) → Q .non H'
theorem ok_over {f : Addr} {fd : FuncData} {n : Nat} (F : Fun K "over" "over" s_over f fd) (T : Txt K mg C) (c_over : C8.Cal P w K mg base (0 + n) "over" (sp_over K C n) []) : FnOk P w K mg base CX0 (0 + n + 1) f fd ["numbers", "first", "behind", "top", "found"] (sp_over K C (n + 1)) := by
  refine F.ok sc_over (fun vs H Q E h => ?_) (fun cdv A outer s H vs Q E hr h => ?_)
  · obtain ⟨a, f, ns, i, j, top, xs, t, rfl, hS, hF, naf, hxl, hn, hj, hC, hlt, q⟩ := h
    rfl
  · obtain ⟨a, f, ns, i, j, top, xs, t, rfl, hS, hF, naf, hxl, hn, hj, hC, hlt, q⟩ := h
    have hcl := T.cl
    have hnK := T.nK
    refine ⟨_, (pss_one (ps_if (pt_cmpR op_lt (pv 1) (pv 2) (nomark _)) (pss_cons (ps_set (i := 5) sc_over.nd rfl (by first | exact Or.inl rfl | exact Or.inr rfl) (pe_bm PySem.F.plainAttrs_list PySem.F.slot_list_index PySem.F.type_list_index mt_index3 (pv 0) (pa_cons (pe_callB (cr_min rfl) (by rfl) T.b_min (by decide +kernel) (pa_cons (pe_slice sl_list (pv 0) (po_some (pv 1)) (po_some (pv 2))) pa_nil)) (pa_cons (pv 1) pa_nil))))
      (pss_cons (ps_asg (pv 3) (pg_sub (pv 4) (pv 5) set_list))
      (pss_cons (ps_expr (C8.pe_c c_over hr (by omega) rfl (pa_cons (pv 0) (pa_cons (pv 1) (pa_cons (pv 5) (pa_cons (pv 5) (pa_cons (pv 4) pa_nil)))))))
      (pss_one (ps_expr (C8.pe_c c_over hr (by omega) rfl (pa_cons (pv 0) (pa_cons (pe_op op_add (pv 5) pe_int) (pa_cons (pv 2) (pa_cons (pv 5) (pa_cons (pv 4) pa_nil))))))))))) pss_nil)), ?_⟩
    have hsz := hC.size
    walk_at "go"
    refine brD (fun c => ?_) (fun c => ?_)
    · walk_at "go"
      refine r_slL hS fun s ns' => ?_
      rw [cut_midI (by omega) (by omega) (by omega) (by omega), show ((i : Nat) : Int).toNat = i by omega, show ((j : Nat) : Int).toNat = j by omega]
      have sA := same_new ns' (.lst (((ns.drop i).take (j - i)).map V.int))
      have hS1 := sA.seq hS
      have hF1 := sA _ _ hF
      have hX := @upd_same H s (.lst (((ns.drop i).take (j - i)).map V.int))
      generalize upd H s (.lst (((ns.drop i).take (j - i)).map V.int)) = H1 at sA hS1 hF1 hX
      walk_at "go"
      refine r_min (VT.SqL.lst hX) (by rw [List.length_take, List.length_drop]; omega) fun m hm hle => ?_
      obtain ⟨h, hL, hno⟩ := least_of_min hm hle
      walk_at "go"
      have h1 := hL.lo
      have h2 := hL.hi
      refine r_index3 hS1 (by omega) (by omega) hL.val (fun l l1 l2 => hno l (by omega) l2) ?_
      walk_at "go"
      refine r_setV hF1 (by omega) (by omega) ?_
      rw [show ((h : Nat) : Int).toNat = h by omega]
      cases hC with
      | nil => omega
      | @node _ _ h' m' l r hm' hl hr =>
        obtain ⟨_, e⟩ := hm'.uniq hL
        subst e
        have hls := hl.size
        have hrs := hr.size
        have b1 : But f H (upd H1 f (.lst (xs.set h' (oV top)))) := (But.of sA).up
        have hS2 := b1.seq naf hS
        have hF2 := @upd_same H1 f (.lst (xs.set h' (oV top)))
        generalize upd H1 f (.lst (xs.set h' (oV top))) = H2 at b1 hS2 hF2
        walk_at "go"
        refine ⟨a, f, ns, i, h', some h', _, l, rfl, hS2, hF2, naf, by rw [List.length_set]; exact hxl, hn, by omega, hl, by omega, fun H3 b3 hF3 => ?_⟩
        walk_at "go"
        have b13 := b1.trans b3
        refine ⟨a, f, ns, h' + 1, j, some h', _, r, rfl, b13.seq naf hS, hF3, naf, by rw [splice_len (by rw [List.length_set, BT.codeV_len]; omega), List.length_set]; exact hxl, hn, hj, hr, by omega, fun H4 b4 hF4 => ?_⟩
        refine q H4 (b13.trans b4) ?_
        have e := splice_tree (xs := xs) (f := i) (l := l) (r := r) (top := top) (by show i + (l.size + 1 + r.size) ≤ _; omega)
        rw [hls] at e
        rw [hF4, e]
    · walk_at "go"
      cases hC with
      | nil =>
        refine q H (But.of (Same.refl _)) ?_
        show H f = some (.lst (splice xs i []))
        rw [splice_nil]
        exact hF
      | node hm' hl hr =>
        have h1 := hm'.lo
        have h2 := hm'.hi
        omega
theorem no_over {K : PySem.W.Frag} {C : Addr} : ∀ vs H Q E, ¬ sp_over K C 0 vs H Q E := by
  rintro vs H Q E ⟨a, f, ns, i, j, top, xs, t, rfl, hS, hF, naf, hxl, hn, hj, hC, hlt, q⟩
  omega
theorem sc_tree_over : FnScope ["numbers", "found"] ["numbers"] (defScope s_tree_over) := ⟨rfl, rfl, rfl, by decide +kernel, rfl, by decide +kernel, by decide +kernel⟩
def sp_tree_over (K : PySem.W.Frag) (_ : Addr) : Sp := fun vs H Q _ => ∃ (a : Addr) (ns : List Int) (t : BT), vs = [.ref a] ∧ H a = some (.lst (ns.map V.int)) ∧ ns.length ≤ 40 ∧ IsCart ns 0 ns.length t ∧
  ∀ (x : Addr) (H' : Hp), H x = none → Same H H' → H' x = some (.lst (t.codeV 0 none)) → Q (.ref x) H'
theorem ok_tree_over {f : Addr} {fd : FuncData} (F : Fun K "tree_over" "tree_over" s_tree_over f fd) (T : Txt K mg C) (c_over : C8.Cal P w K mg base 42 "over" (sp_over K C 42) []) : FnOk P w K mg base CX0 43 f fd ["numbers"] (sp_tree_over K C) := by
  refine F.ok sc_tree_over (fun vs H Q E h => ?_) (fun cdv A outer s H vs Q E hr h => ?_)
  · obtain ⟨a, ns, t, rfl, hS, hn, hC, q⟩ := h
    rfl
  · obtain ⟨a, ns, t, rfl, hS, hn, hC, q⟩ := h
    have hcl := T.cl
    have hnK := T.nK
    refine ⟨_, (pss_cons (ps_set (i := 1) sc_tree_over.nd rfl (by first | exact Or.inl rfl | exact Or.inr rfl) (pe_op op_rep (pe_lst (pa_cons pe_non pa_nil)) (pe_callB c_len (by rfl) T.b_len PySem.boot_len (pa_cons (pv 0) pa_nil))))
      (pss_cons (ps_expr (C8.pe_c c_over hr (by decide) rfl (pa_cons (pv 0) (pa_cons pe_int (pa_cons (pe_callB c_len (by rfl) T.b_len PySem.boot_len (pa_cons (pv 0) pa_nil)) (pa_cons pe_non (pa_cons (pv 1) pa_nil)))))))
      (pss_one (ps_ret (pv 1))))), ?_⟩
    walk_at "go"
    intro e ne
    have sB := same_new ne (.lst [V.non])
    have hE := @upd_same H e (.lst [V.non])
    have hS1 := sB _ _ hS
    generalize upd H e (.lst [V.non]) = H1 at sB hE hS1
    walk_at "go"
    refine r_rep hE (by omega) (by omega) fun f nf => ?_
    have sC := same_new nf (.lst (List.replicate (ns.length : Int).toNat V.non))
    have naf : a ≠ f := ne_of_none hS1 nf
    have fr := sB.free nf
    have hF := @upd_same H1 f (.lst (List.replicate (ns.length : Int).toNat V.non))
    have hS2 := sC _ _ hS1
    have s2 := sB.trans sC
    generalize upd H1 f (.lst (List.replicate (ns.length : Int).toNat V.non)) = H2 at sC hF hS2 s2
    walk_at "go"
    refine ⟨a, f, ns, 0, ns.length, none, _, t, rfl, VT.SqL.lst hS2, hF, naf, by rw [List.length_replicate]; omega, by omega, Nat.le_refl _, hC, by omega, fun H3 b3 hF3 => ?_⟩
    walk_at "go"
    refine q f H3 fr (same_but s2 b3 fr) ?_
    have hs := hC.size
    rw [hF3, splice_all (by rw [BT.codeV_len, List.length_replicate]; omega)]
theorem sc_tree_of : FnScope ["row"] ["row"] (defScope s_tree_of) := ⟨rfl, rfl, rfl, by decide +kernel, rfl, by decide +kernel, by decide +kernel⟩
def sp_tree_of (_ : PySem.W.Frag) (C : Addr) : Sp := fun vs H Q _ => ∃ (p dx l : Addr) (ns : List Int) (t : BT), vs = [.ref p] ∧ H p = some (.ins C dx (rowF l)) ∧ H l = some (.lst (ns.map V.int)) ∧ ns.length ≤ 40 ∧ IsCart ns 0 ns.length t ∧
  ∀ (x : Addr) (H' : Hp), H x = none → Same H H' → H' x = some (.lst (t.codeV 0 none)) → Q (.ref x) H'
theorem ok_tree_of {f : Addr} {fd : FuncData} (F : Fun K "tree_of" "tree_of" s_tree_of f fd) (T : Txt K mg C) (c_tree_over : C8.Cal P w K mg base 43 "tree_over" (sp_tree_over K C) []) (c_Row_numbers : C8.Met P w K mg base 1 C "numbers" (sp_Row_numbers K C) []) : FnOk P w K mg base CX0 44 f fd ["row"] (sp_tree_of K C) := by
  refine F.ok sc_tree_of (fun vs H Q E h => ?_) (fun cdv A outer s H vs Q E hr h => ?_)
  · obtain ⟨p, dx, l, ns, t, rfl, hp, hL, hn, hC, q⟩ := h
    rfl
  · obtain ⟨p, dx, l, ns, t, rfl, hp, hL, hn, hC, q⟩ := h
    have hcl := T.cl
    have hnK := T.nK
    refine ⟨_, (pss_one (ps_ret (C8.pe_c c_tree_over hr (by decide) rfl (pa_cons (C8.pe_mt0 c_Row_numbers hr (by decide) (pv 0)) pa_nil)))), ?_⟩
    walk_at "go"
    refine ⟨p, dx, l, ns, rfl, hp, hL, fun n nn => ?_⟩
    have sA := same_new nn (.lst (ns.map V.int))
    walk_at "go"
    refine ⟨n, ns, t, rfl, upd_same, hn, hC, fun x H' nx s hx => ?_⟩
    exact q x H' (sA.free nx) (sA.trans s) hx
theorem cell_at {ns : List Int} {k : Int} (h0 : 0 ≤ k) (h : k < (ns.length : Int)) : atI (ns.map V.int) k = some (.int (ns.getD k.toNat 0)) := by
  have hk : k.toNat < ns.length := by omega
  refine r_at (j := k.toNat) (by omega) ?_
  rw [List.getElem?_map, List.getD_eq_getElem?_getD, List.getElem?_eq_getElem hk]
  rfl
theorem cell_no {ns : List Int} {k : Int} (h : ¬ k < (ns.length : Int)) : ns.getD k.toNat 0 = 0 := by
  rw [List.getD_eq_getElem?_getD, List.getElem?_eq_none (by omega)]
  rfl
theorem sc__law_cell_at : FnScope ["script", "k"] ["script", "k"] (defScope s__law_cell_at) := ⟨rfl, rfl, rfl, by decide +kernel, rfl, by decide +kernel, by decide +kernel⟩
def sp__law_cell_at (K : PySem.W.Frag) (_ : Addr) : Sp := fun vs H Q _ => ∃ (a : Addr) (ns : List Int) (k : Int), vs = [.ref a, .int k] ∧ SqL K H a (ns.map V.int) ∧ 0 ≤ k ∧ Q (.int (ns.getD k.toNat 0)) H
theorem ok__law_cell_at {f : Addr} {fd : FuncData} (F : Fun K "_law_cell_at" "_law_cell_at" s__law_cell_at f fd) (T : Txt K mg C)  : FnOk P w K mg base CX0 1 f fd ["script", "k"] (sp__law_cell_at K C) := by
  refine F.ok sc__law_cell_at (fun vs H Q E h => ?_) (fun cdv A outer s H vs Q E hr h => ?_)
  · obtain ⟨a, ns, k, rfl, hS, h0, q⟩ := h
    rfl
  · obtain ⟨a, ns, k, rfl, hS, h0, q⟩ := h
    have hcl := T.cl
    have hnK := T.nK
    refine ⟨_, (pss_cons (ps_if (pt_cmpR op_lt (pv 1) (pe_callB c_len (by rfl) T.b_len PySem.boot_len (pa_cons (pv 0) pa_nil)) (nomark _)) (pss_one (ps_ret (pe_ix ix_list (pv 0) (pv 1) (fun _ _ => rfl)))) pss_nil)
      (pss_one (ps_ret pe_int))), ?_⟩
    walk_at "go"
    try rw [List.length_map]
    refine brD (fun c => ?_) (fun c => ?_)
    · have c2 := cell_at h0 c
      walk_at "go"
      exact q
    · rw [cell_no c] at q
      walk_at "go"
      exact q
theorem sc__law_draw : FnScope ["cell", "k", "bound", "one", "two"] ["cell", "k", "bound"] (defScope s__law_draw) := ⟨rfl, rfl, rfl, by decide +kernel, rfl, by decide +kernel, by decide +kernel⟩
def sp__law_draw (_ : PySem.W.Frag) (_ : Addr) : Sp := fun vs H Q _ => ∃ (c k b : Int), vs = [.int c, .int k, .int b] ∧ 0 ≤ k ∧ k ≤ 1000 ∧ 0 < b ∧ b ≤ 10000000 ∧ ∀ r : Int, 0 ≤ r → r < b → Q (.int r) H
theorem ok__law_draw {f : Addr} {fd : FuncData} (F : Fun K "_law_draw" "_law_draw" s__law_draw f fd) (T : Txt K mg C)  : FnOk P w K mg base CX0 1 f fd ["cell", "k", "bound"] (sp__law_draw K C) := by
  refine F.ok sc__law_draw (fun vs H Q E h => ?_) (fun cdv A outer s H vs Q E hr h => ?_)
  · obtain ⟨c, k, b, rfl, h0, h1, h2, h3, q⟩ := h
    rfl
  · obtain ⟨c, k, b, rfl, h0, h1, h2, h3, q⟩ := h
    have hcl := T.cl
    have hnK := T.nK
    refine ⟨_, (pss_cons (ps_set (i := 3) sc__law_draw.nd rfl (by first | exact Or.inl rfl | exact Or.inr rfl) (pe_op op_mod (pe_op op_add (pe_op op_add (pe_op op_mul (pe_op op_mod (pv 0) pe_int) pe_int) (pe_op op_mul (pv 1) pe_int)) pe_int) pe_int))
      (pss_cons (ps_set (i := 4) sc__law_draw.nd rfl (by first | exact Or.inl rfl | exact Or.inr rfl) (pe_op op_mod (pe_op op_mul (pe_op op_add (pe_op op_mod (pv 0) pe_int) pe_int) (pe_op op_add (pe_op op_add (pe_op op_mul (pv 1) (pv 1)) (pe_op op_mul pe_int (pv 1))) pe_int)) pe_int))
      (pss_one (ps_ret (pe_op op_mod (pe_op op_fdiv (pe_op op_mul (pv 3) (pe_op op_add (pv 4) pe_int)) pe_int) (pv 2)))))), ?_⟩
    have ek : (-1000 ≤ k * k ∧ k * k ≤ 1000000) := ⟨Int.le_trans (by decide) (Int.mul_nonneg h0 h0), Int.le_trans (Int.mul_le_mul h1 h1 h0 (by decide)) (by decide)⟩
    walk_at "go"
    have e1 := Int.emod_nonneg c (show (1000003 : Int) ≠ 0 by decide)
    have e2 := Int.emod_lt_of_pos c (show (0 : Int) < 1000003 by decide)
    walk_at "go"
    exact q _ (Int.emod_nonneg _ (by omega)) (Int.emod_lt_of_pos _ (by omega))
/-- numbers that a row of the law's may have -/
def Mid (ns : List Int) : Prop := ∀ x ∈ ns, x.natAbs < 2 ^ 200
theorem Mid.nil : Mid [] := fun _ h => by cases h
theorem Mid.snoc {ns : List Int} {x : Int} (h : Mid ns) (hx : x.natAbs < 2 ^ 200) : Mid (ns ++ [x]) := fun y hy => by
  rcases List.mem_append.mp hy with e | e
  · exact h y e
  · rw [List.mem_singleton.mp e]
    exact hx
theorem sc__law_row : FnScope ["script", "at", "most", "size", "kind", "found", "k", "cell"] ["script", "at", "most"] (defScope s__law_row) := ⟨rfl, rfl, rfl, by decide +kernel, rfl, by decide +kernel, by decide +kernel⟩
def sp__law_row (K : PySem.W.Frag) (_ : Addr) : Sp := fun vs H Q _ => ∃ (a : Addr) (ns : List Int) (at' m : Int), vs = [.ref a, .int at', .int m] ∧ SqL K H a (ns.map V.int) ∧ 0 ≤ at' ∧ at' ≤ 100 ∧ 0 ≤ m ∧ m ≤ 60 ∧
  ∀ (p : Addr) (ms : List Int) (H' : Hp), H p = none → Same H H' → H' p = some (.lst (ms.map V.int)) → (ms.length : Int) ≤ m → Mid ms → Q (.ref p) H'
theorem ok__law_row {f : Addr} {fd : FuncData} (F : Fun K "_law_row" "_law_row" s__law_row f fd) (T : Txt K mg C) (c__law_draw : C8.Cal P w K mg base 1 "_law_draw" (sp__law_draw K C) []) (c__law_cell_at : C8.Cal P w K mg base 1 "_law_cell_at" (sp__law_cell_at K C) []) : FnOk P w K mg base CX0 2 f fd ["script", "at", "most"] (sp__law_row K C) := by
  refine F.ok sc__law_row (fun vs H Q E h => ?_) (fun cdv A outer s H vs Q E hr h => ?_)
  · obtain ⟨a, ns, at', m, rfl, hS, h0, h1, h2, h3, q⟩ := h
    rfl
  · obtain ⟨a, ns, at', m, rfl, hS, h0, h1, h2, h3, q⟩ := h
    have hcl := T.cl
    have hnK := T.nK
    refine ⟨_, (pss_cons (ps_set (i := 3) sc__law_row.nd rfl (by first | exact Or.inl rfl | exact Or.inr rfl) (pe_op op_mod (C8.pe_c c__law_cell_at hr (by decide) rfl (pa_cons (pv 0) (pa_cons (pv 1) pa_nil))) (pe_op op_add (pv 2) pe_int)))
      (pss_cons (ps_set (i := 4) sc__law_row.nd rfl (by first | exact Or.inl rfl | exact Or.inr rfl) (pe_op op_mod (pe_op op_fdiv (C8.pe_c c__law_cell_at hr (by decide) rfl (pa_cons (pv 0) (pa_cons (pv 1) pa_nil))) (pe_op op_add (pv 2) pe_int)) pe_int))
      (pss_cons (ps_set (i := 5) sc__law_row.nd rfl (by first | exact Or.inl rfl | exact Or.inr rfl) (pe_lst pa_nil))
      (pss_cons (ps_for PassesOwn.never rfl (pi_range1 (by rfl) T.b_range (pa_cons (pv 3) pa_nil)) (pg_name (i := 6) sc__law_row.nd rfl (by first | exact Or.inl rfl | exact Or.inr rfl)) (pss_cons (ps_set (i := 7) sc__law_row.nd rfl (by first | exact Or.inl rfl | exact Or.inr rfl) (C8.pe_c c__law_cell_at hr (by decide) rfl (pa_cons (pv 0) (pa_cons (pe_op op_add (pe_op op_add (pv 1) pe_int) (pv 6)) pa_nil))))
      (C8.pss_cut (ps_if (pt_cmpR op_ge (pe_op op_add (pe_op op_add (pv 1) pe_int) (pv 6)) (pe_callB c_len (by rfl) T.b_len PySem.boot_len (pa_cons (pv 0) pa_nil)) (nomark _)) (pss_one (ps_set (i := 7) sc__law_row.nd rfl (by first | exact Or.inl rfl | exact Or.inr rfl) (C8.pe_c c__law_draw hr (by decide) rfl (pa_cons (C8.pe_c c__law_cell_at hr (by decide) rfl (pa_cons (pv 0) (pa_cons (pv 1) pa_nil))) (pa_cons (pv 6) (pa_cons pe_int pa_nil)))))) pss_nil)
      (pss_one (ps_expr (pe_bm PySem.F.plainAttrs_list PySem.F.slot_list_append PySem.F.type_list_append mt_append (pv 5) (pa_cons (pe_ix ix_list (pe_lst (pa_cons (pe_op op_mod (pv 7) pe_int) (pa_cons (pe_op op_sub (pe_op op_mod (pv 7) pe_int) pe_int) (pa_cons (pe_op op_sub (pe_op op_mod (pv 7) (pe_op op_pow pe_int pe_int)) (pe_op op_pow pe_int pe_int)) (pa_cons (pe_op op_add (pv 6) (pe_op op_mod (pv 7) pe_int)) pa_nil))))) (pv 4) (fun _ _ => rfl)) pa_nil)))))))
      (pss_one (ps_ret (pv 5))))))), ?_⟩
    walk_at "go"
    refine ⟨a, ns, at', rfl, hS, h0, ?_⟩
    generalize ns.getD at'.toNat 0 = c0
    walk_at "go"
    refine ⟨a, ns, at', rfl, hS, h0, ?_⟩
    generalize ns.getD at'.toNat 0 = c1
    walk_at "go"
    intro p np
    walk_at "go"
    have z0 := Int.emod_nonneg c0 (show m + 1 ≠ 0 by omega)
    have z1 := Int.emod_lt_of_pos c0 (show (0 : Int) < m + 1 by omega)
    generalize c0 % (m + 1) = size at z0 z1
    have k0 := Int.emod_nonneg (c1 / (m + 1)) (show (4 : Int) ≠ 0 by decide)
    have k1 := Int.emod_lt_of_pos (c1 / (m + 1)) (show (0 : Int) < 4 by decide)
    generalize c1 / (m + 1) % 4 = kind at k0 k1
    walk_at "go"
    refine r_loopR (fun i σ H' => ∃ ms : List Int, ∃ v w, σ = [some (.ref a), some (.int at'), some (.int m), some (.int size), some (.int kind), some (.ref p), v, w] ∧ Same H H' ∧ H' p = some (.lst (ms.map V.int)) ∧ ms.length = i ∧ Mid ms) ?_ ?_ ?_
    · exact ⟨[], _, _, rfl, same_new np _, upd_same, rfl, Mid.nil⟩
    · rintro i σ H' hi ⟨ms, v, w, rfl, s1, hp, hl, hm⟩
      have fin : ∀ (c k x : Int), 0 ≤ k → k ≤ 60 → (x = c % 4 ∨ x = c % 21 - 10 ∨ x = c % 10 ^ 50 - 10 ^ 49 ∨ x = k + c % 3) → x.natAbs < 2 ^ 200 := fun c k x k0 k1 hx => by
        have e1 := Int.emod_nonneg c (show (4 : Int) ≠ 0 by decide)
        have e2 := Int.emod_lt_of_pos c (show (0 : Int) < 4 by decide)
        have e3 := Int.emod_nonneg c (show (21 : Int) ≠ 0 by decide)
        have e4 := Int.emod_lt_of_pos c (show (0 : Int) < 21 by decide)
        have e5 := Int.emod_nonneg c (show (10 ^ 50 : Int) ≠ 0 by decide)
        have e6 := Int.emod_lt_of_pos c (show (0 : Int) < 10 ^ 50 by decide)
        have e7 := Int.emod_nonneg c (show (3 : Int) ≠ 0 by decide)
        have e8 := Int.emod_lt_of_pos c (show (0 : Int) < 3 by decide)
        omega
      walk_at "go"
      refine ⟨a, ns, _, rfl, s1.seq hS, by omega, ?_⟩
      generalize ns.getD (at' + 1 + (0 + (i : Int))).toNat 0 = c2
      walk_at "go"
      refine r_cut (fun σ' H4 => H4 = H' ∧ ∃ c : Int, σ' = [some (V.ref a), some (.int at'), some (.int m), some (.int size), some (.int kind), some (.ref p), some (.int (0 + (i : Int))), some (.int c)]) ?_ ?_
      · walk_at "go"
        try rw [List.length_map]
        refine brD (fun c => ?_) (fun c => ?_)
        · walk_at "go"
          refine ⟨a, ns, _, rfl, s1.seq hS, by omega, ?_⟩
          walk_at "go"
          refine ⟨_, _, _, rfl, by omega, by omega, by omega, by omega, fun r r0 r1 => ?_⟩
          walk_at "go"
          exact ⟨rfl, _, rfl⟩
        · walk_at "go"
          exact ⟨rfl, _, rfl⟩
      · rintro σ' H4 ⟨rfl, c, rfl⟩
        walk_at "go"
        intro t nt
        walk_at "go"
        have s2 : Same H4 (upd H4 t (.lst [V.int (c % 4), V.int (c % 21 - 10), V.int (c % 10 ^ 50 - 10 ^ 49), V.int (0 + (i : Int) + c % 3)])) := same_new nt _
        have kk : kind = ((0 : Nat) : Int) ∨ kind = ((1 : Nat) : Int) ∨ kind = ((2 : Nat) : Int) ∨ kind = ((3 : Nat) : Int) := by omega
        rcases kk with e | e | e | e
        · refine r_ixL (VT.SqL.lst upd_same) (r_at e rfl) ?_
          walk_at "go"
          exact ⟨ms ++ [_], _, _, rfl, same_mut (s1.trans s2) np, by rw [upd_same, snoc_int] <;> rfl, by rw [List.length_append, hl] <;> rfl, hm.snoc (fin c (0 + (i : Int)) _ (by omega) (by omega) (.inl rfl))⟩
        · refine r_ixL (VT.SqL.lst upd_same) (r_at e rfl) ?_
          walk_at "go"
          exact ⟨ms ++ [_], _, _, rfl, same_mut (s1.trans s2) np, by rw [upd_same, snoc_int] <;> rfl, by rw [List.length_append, hl] <;> rfl, hm.snoc (fin c (0 + (i : Int)) _ (by omega) (by omega) (.inr (.inl rfl)))⟩
        · refine r_ixL (VT.SqL.lst upd_same) (r_at e rfl) ?_
          walk_at "go"
          exact ⟨ms ++ [_], _, _, rfl, same_mut (s1.trans s2) np, by rw [upd_same, snoc_int] <;> rfl, by rw [List.length_append, hl] <;> rfl, hm.snoc (fin c (0 + (i : Int)) _ (by omega) (by omega) (.inr (.inr (.inl rfl))))⟩
        · refine r_ixL (VT.SqL.lst upd_same) (r_at e rfl) ?_
          walk_at "go"
          exact ⟨ms ++ [_], _, _, rfl, same_mut (s1.trans s2) np, by rw [upd_same, snoc_int] <;> rfl, by rw [List.length_append, hl] <;> rfl, hm.snoc (fin c (0 + (i : Int)) _ (by omega) (by omega) (.inr (.inr (.inr rfl))))⟩
    · rintro σ H' ⟨ms, v, w, rfl, s1, hp, hl, hm⟩
      walk_at "go"
      exact q p ms H' np s1 hp (by omega) hm
theorem r_countV {K : PySem.W.Frag} {a : Addr} {ys : List V} {y : V} {H : Hp} {Q : VK} (h : SqL K H a ys) (f1 : flatV y = true) (f2 : ys.all flatV = true) (q : Q (.int (ys.countP (fun z => eqV z y) : Nat)) H) : rCountV K (.ref a) [y] H Q := ⟨a, ys, y, rfl, rfl, h, f1, f2, q⟩
theorem flat_ok {ys : List V} (h : ys.all okV = true) : ys.all flatV = true := by
  refine List.all_eq_true.mpr fun x hx => ?_
  have := List.all_eq_true.mp h x hx
  cases x with
  | non => rfl
  | int _ => rfl
  | bl _ => cases this
  | str _ => cases this
  | byt _ => cases this
  | flt _ => cases this
  | ref _ => cases this
  | ty _ => cases this
theorem far_shift (qs : List Nat) (k : Nat) : ((qs.map some).map (Option.map (k + ·))).map oV = qs.map fun (q : Nat) => V.int ((q : Int) + (k : Int)) := by
  induction qs with
  | nil => rfl
  | cons q qs ih =>
    rw [List.map_cons, List.map_cons, List.map_cons, List.map_cons, ih]
    show V.int ((k + q : Nat) : Int) :: _ = _
    rw [show ((k + q : Nat) : Int) = (q : Int) + (k : Int) by omega]
theorem far_plain (qs : List Nat) : (qs.map some).map oV = qs.map fun (q : Nat) => V.int (q : Int) := by
  rw [List.map_map]
  rfl
def farL (qs : List Nat) (k i : Nat) : List V := (qs.take i).map fun (q : Nat) => V.int ((q : Int) + (k : Int))
theorem farL_more {qs : List Nat} {k i q : Nat} (h : qs[i]? = some q) : farL qs k (i + 1) = farL qs k i ++ [V.int ((q : Int) + (k : Int))] := by
  unfold farL
  rw [take_more h, List.map_append]
  rfl
theorem okV_ints (qs : List Nat) (g : Nat → Int) : (qs.map fun (q : Nat) => V.int (g q)).all okV = true := by
  rw [List.all_map]
  exact List.all_eq_true.mpr fun _ _ => rfl
theorem cutV_top (xs : List V) (h : Nat) (hh : h ≤ xs.length) : cutV xs none (some (h : Int)) = xs.take h := by
  rw [cut_take (by omega) (by omega), Int.toNat_natCast]
theorem ok_take {xs : List V} {n : Nat} (h : xs.all okV = true) : (xs.take n).all okV = true := List.all_eq_true.mpr fun x hx => List.all_eq_true.mp h x (List.mem_of_mem_take hx)
theorem sc_law : FnScope ["script", "kept", "at", "parts", "whole", "trees", "lows", "top", "far", "due", "first", "behind", "one", "other", "rows", "areas", "some", "number", "row"] ["script"] (defScope s_law) := ⟨rfl, rfl, rfl, by decide +kernel, rfl, by decide +kernel, by decide +kernel⟩
def sp_law (K : PySem.W.Frag) (_ : Addr) : Sp := fun vs H Q _ => ∃ (a : Addr) (ns : List Int), vs = [.ref a] ∧ SqL K H a (ns.map V.int) ∧ ns.length ≤ 63 ∧ ∀ H', Q (.bl true) H'
theorem law_in {K : PySem.W.Frag} {H : Hp} {a : Addr} {ns : List Int} {E : XK} (hS : SqL K H a (ns.map V.int)) (hl : ns.length ≤ 63) : sp_law K 0 [.ref a] H (fun v _ => v = .bl true) E := ⟨a, ns, rfl, hS, hl, fun _ => rfl⟩
theorem ok_law {f : Addr} {fd : FuncData} (F : Fun K "law" "law" s_law f fd) (T : Txt K mg C) (c_widest : C8.Cal P w K mg base 2 "widest" (sp_widest K C) []) (c_Row : C8.Mak P w K mg base 1 "Row" C (sp_Row___init__ K C) []) (c_lesser_ahead : C8.Cal P w K mg base 2 "lesser_ahead" (sp_lesser_ahead K C) []) (c_least : C8.Cal P w K mg base 2 "least" (sp_least K C) []) (c__law_cell_at : C8.Cal P w K mg base 1 "_law_cell_at" (sp__law_cell_at K C) []) (c_tree_of : C8.Cal P w K mg base 44 "tree_of" (sp_tree_of K C) []) (c_joined : C8.Cal P w K mg base 3 "joined" (sp_joined K C) []) (c_Row_cut : C8.Met P w K mg base 3 C "cut" (sp_Row_cut K C) []) (c__law_row : C8.Cal P w K mg base 2 "_law_row" (sp__law_row K C) []) : FnOk P w K mg base CX0 45 f fd ["script"] (sp_law K C) := by
  refine F.ok sc_law (fun vs H Q E h => ?_) (fun cdv A outer s H vs Q E hr h => ?_)
  · obtain ⟨a, ns, rfl, hS, hl, k⟩ := h
    rfl
  · obtain ⟨a, ns, rfl, hS, hl, k⟩ := h
    have hcl := T.cl
    have hnK := T.nK
    refine ⟨_, (pss_cons (ps_set (i := 1) sc_law.nd rfl (by first | exact Or.inl rfl | exact Or.inr rfl) (pe_op op_cat (C8.pe_c c__law_row hr (by decide) rfl (pa_cons (pv 0) (pa_cons pe_int (pa_cons pe_int pa_nil)))) (pe_lst (pa_cons (pe_op op_mod (C8.pe_c c__law_cell_at hr (by decide) rfl (pa_cons (pv 0) (pa_cons pe_int pa_nil))) pe_int) (pa_cons (pe_op op_mod (C8.pe_c c__law_cell_at hr (by decide) rfl (pa_cons (pv 0) (pa_cons pe_int pa_nil))) pe_int) pa_nil)))))
      (pss_cons (ps_set (i := 2) sc_law.nd rfl (by first | exact Or.inl rfl | exact Or.inr rfl) (pe_op op_add pe_int (pe_op op_mod (C8.pe_c c__law_cell_at hr (by decide) rfl (pa_cons (pv 0) (pa_cons pe_int pa_nil))) (pe_op op_sub (pe_callB c_len (by rfl) T.b_len PySem.boot_len (pa_cons (pv 1) pa_nil)) pe_int))))
      (pss_cons (ps_set (i := 3) sc_law.nd rfl (by first | exact Or.inl rfl | exact Or.inr rfl) (C8.pe_mt c_Row_cut hr (by decide) (C8.pe_mk c_Row hr (by decide) rfl (pa_cons (pe_callTy c_listOf (by rfl) T.b_list (by decide +kernel) (pa_cons (pv 1) pa_nil)) pa_nil)) (pa_cons (pv 2) pa_nil)))
      (pss_cons (ps_set (i := 4) sc_law.nd rfl (by first | exact Or.inl rfl | exact Or.inr rfl) (C8.pe_c c_joined hr (by decide) rfl (pa_cons (pe_ix ix_tup (pv 3) pe_int (fun _ _ => rfl)) (pa_cons (pe_ix ix_tup (pv 3) pe_int (fun _ _ => rfl)) pa_nil))))
      (pss_cons (ps_set (i := 5) sc_law.nd rfl (by first | exact Or.inl rfl | exact Or.inr rfl) (pe_lst (pa_cons (C8.pe_c c_tree_of hr (by decide) rfl (pa_cons (pe_ix ix_tup (pv 3) pe_int (fun _ _ => rfl)) pa_nil)) (pa_cons (C8.pe_c c_tree_of hr (by decide) rfl (pa_cons (pe_ix ix_tup (pv 3) pe_int (fun _ _ => rfl)) pa_nil)) (pa_cons (C8.pe_c c_tree_of hr (by decide) rfl (pa_cons (pv 4) pa_nil)) pa_nil)))))
      (pss_cons (ps_set (i := 6) sc_law.nd rfl (by first | exact Or.inl rfl | exact Or.inr rfl) (pe_lst (pa_cons (C8.pe_c c_least hr (by decide) rfl (pa_cons (pe_ix ix_tup (pv 3) pe_int (fun _ _ => rfl)) (pa_cons pe_int (pa_cons (pv 2) pa_nil)))) (pa_cons (C8.pe_c c_least hr (by decide) rfl (pa_cons (pe_ix ix_tup (pv 3) pe_int (fun _ _ => rfl)) (pa_cons pe_int (pa_cons (pe_op op_sub (pe_callB c_len (by rfl) T.b_len PySem.boot_len (pa_cons (pv 1) pa_nil)) (pv 2)) pa_nil)))) pa_nil))))
      (C8.pss_cut (ps_if (pt_cmpR op_lt (pe_ix ix_tup (pe_ix ix_list (pv 6) pe_int (fun _ _ => rfl)) pe_int (fun _ _ => rfl)) (pe_ix ix_tup (pe_ix ix_list (pv 6) pe_int (fun _ _ => rfl)) pe_int (fun _ _ => rfl)) (nomark _)) (pss_cons (ps_set (i := 7) sc_law.nd rfl (by first | exact Or.inl rfl | exact Or.inr rfl) (pe_op op_add (pe_ix ix_tup (pe_ix ix_list (pv 6) pe_int (fun _ _ => rfl)) pe_int (fun _ _ => rfl)) (pv 2)))
      (pss_cons (ps_set (i := 8) sc_law.nd rfl (by first | exact Or.inl rfl | exact Or.inr rfl) (pe_slice sl_list (pe_ix ix_list (pv 5) pe_int (fun _ _ => rfl)) (po_some (pe_op op_add (pe_ix ix_tup (pe_ix ix_list (pv 6) pe_int (fun _ _ => rfl)) pe_int (fun _ _ => rfl)) pe_int)) po_none))
      (pss_cons (ps_setLc (i := 9) (own := [("one", 12)]) (g := gName 12) (tt := tYes) rfl sc_law.nd rfl rfl (sw_true rfl rfl rfl (by decide +kernel)) (pi_list (pv 8)) (blkOk_by (own := [("one", 12)]) (N := ["script", "kept", "at", "parts", "whole", "trees", "lows", "top", "far", "due", "first", "behind", "one", "other", "rows", "areas", "some", "number", "row"]) (sc := (defScope s_law)) (by decide +kernel)) (fun _ _ _ _ _ => pg_name (i := 12) sc_law.nd rfl (by first | exact Or.inl rfl | exact Or.inr rfl)) (fun _ _ _ _ _ => pts_nil) (fun _ _ _ _ _ => (pe_op op_add (pv 12) (pv 2))))
      (pss_one (ps_if (pt_cmpR (op_neD hr.units) (pe_slice sl_list (pe_ix ix_list (pv 5) pe_int (fun _ _ => rfl)) (po_some (pe_op op_add (pv 7) pe_int)) po_none) (pv 9) (nomark _)) (pss_one (ps_ret pe_bl)) pss_nil))))) (pss_cons (ps_set (i := 7) sc_law.nd rfl (by first | exact Or.inl rfl | exact Or.inr rfl) (pe_ix ix_tup (pe_ix ix_list (pv 6) pe_int (fun _ _ => rfl)) pe_int (fun _ _ => rfl)))
      (pss_one (ps_if (pt_cmpR (op_neD hr.units) (pe_slice sl_list (pe_ix ix_list (pv 5) pe_int (fun _ _ => rfl)) po_none (po_some (pv 7))) (pe_slice sl_list (pe_ix ix_list (pv 5) pe_int (fun _ _ => rfl)) po_none (po_some (pv 7))) (nomark _)) (pss_one (ps_ret pe_bl)) pss_nil))))
      (pss_cons (ps_if (PW.pt (pw_or (pt_cmpR o_notN (pe_ix ix_list (pe_ix ix_list (pv 5) pe_int (fun _ _ => rfl)) (pv 7) (fun _ _ => rfl)) pe_non (nomark _)) (pw_or1 (pt_cmpR op_ne (pe_bm PySem.F.plainAttrs_list PySem.F.slot_list_count PySem.F.type_list_count mt_countV (pe_ix ix_list (pv 5) pe_int (fun _ _ => rfl)) (pa_cons pe_non pa_nil)) pe_int (nomark _))))) (pss_one (ps_ret pe_bl)) pss_nil)
      (pss_cons (ps_set (i := 10) sc_law.nd rfl (by first | exact Or.inl rfl | exact Or.inr rfl) (pe_op op_mod (C8.pe_c c__law_cell_at hr (by decide) rfl (pa_cons (pv 0) (pa_cons pe_int pa_nil))) (pv 2)))
      (pss_cons (ps_set (i := 11) sc_law.nd rfl (by first | exact Or.inl rfl | exact Or.inr rfl) (pe_op op_add (pe_op op_add (pv 2) pe_int) (pe_op op_mod (C8.pe_c c__law_cell_at hr (by decide) rfl (pa_cons (pv 0) (pa_cons pe_int pa_nil))) (pe_op op_sub (pe_callB c_len (by rfl) T.b_len PySem.boot_len (pa_cons (pv 1) pa_nil)) (pv 2)))))
      (pss_cons (ps_set (i := 12) sc_law.nd rfl (by first | exact Or.inl rfl | exact Or.inr rfl) (C8.pe_c c_least hr (by decide) rfl (pa_cons (pe_ix ix_tup (pv 3) pe_int (fun _ _ => rfl)) (pa_cons (pv 10) (pa_cons (pv 2) pa_nil)))))
      (pss_cons (ps_set (i := 13) sc_law.nd rfl (by first | exact Or.inl rfl | exact Or.inr rfl) (C8.pe_c c_least hr (by decide) rfl (pa_cons (pe_ix ix_tup (pv 3) pe_int (fun _ _ => rfl)) (pa_cons pe_int (pa_cons (pe_op op_sub (pv 11) (pv 2)) pa_nil)))))
      (pss_cons (ps_set (i := 9) sc_law.nd rfl (by first | exact Or.inl rfl | exact Or.inr rfl) (pe_ifExp (pt_cmpR op_le (pe_ix ix_tup (pv 12) pe_int (fun _ _ => rfl)) (pe_ix ix_tup (pv 13) pe_int (fun _ _ => rfl)) (nomark _)) (pv 12) (pe_tup (pa_cons (pe_ix ix_tup (pv 13) pe_int (fun _ _ => rfl)) (pa_cons (pe_op op_add (pe_ix ix_tup (pv 13) pe_int (fun _ _ => rfl)) (pv 2)) pa_nil)))))
      (pss_cons (ps_if (PW.pt (pw_or (pt_cmpR (op_neD hr.units) (C8.pe_c c_least hr (by decide) rfl (pa_cons (pv 4) (pa_cons (pv 10) (pa_cons (pv 11) pa_nil)))) (pv 9) (nomark _)) (pw_or1 (pt_cmpR (op_neD hr.units) (pe_slice sl_list (C8.pe_c c_lesser_ahead hr (by decide) rfl (pa_cons (pv 4) pa_nil)) po_none (po_some (pv 2))) (C8.pe_c c_lesser_ahead hr (by decide) rfl (pa_cons (pe_ix ix_tup (pv 3) pe_int (fun _ _ => rfl)) pa_nil)) (nomark _))))) (pss_one (ps_ret pe_bl)) pss_nil)
      (pss_cons (ps_setLc (i := 14) (own := [("some", 16)]) (g := gName 16) (tt := tYes) rfl sc_law.nd rfl rfl (sw_true rfl rfl rfl (by decide +kernel)) (pi_list (pe_lst (pa_cons (pv 1) (pa_cons (pe_slice sl_list (pv 1) po_none (po_some (pv 2))) (pa_cons (pe_slice sl_list (pv 1) (po_some (pv 2)) po_none) pa_nil))))) (blkOk_by (own := [("some", 16)]) (N := ["script", "kept", "at", "parts", "whole", "trees", "lows", "top", "far", "due", "first", "behind", "one", "other", "rows", "areas", "some", "number", "row"]) (sc := (defScope s_law)) (by decide +kernel)) (fun _ _ _ _ _ => pg_name (i := 16) sc_law.nd rfl (by first | exact Or.inl rfl | exact Or.inr rfl)) (fun _ _ _ _ _ => pts_nil) (fun _ _ _ _ _ => (C8.pe_mk c_Row hr (by decide) rfl (pa_cons (pe_lc (own := [("number", 17)]) (g := gName 17) (tt := tYes) rfl sc_law.nd (piL (K := K) rfl (pv 16)) (blkOk_by (own := [("number", 17)]) (N := ["script", "kept", "at", "parts", "whole", "trees", "lows", "top", "far", "due", "first", "behind", "one", "other", "rows", "areas", "some", "number", "row"]) (sc := (lcScope ((defBody s_law).getD 14 (.Pass ⟨0, 0, 0, 0⟩)))) (by decide +kernel)) (fun _ _ _ _ _ => pg_name (i := 17) sc_law.nd rfl (by first | exact Or.inl rfl | exact Or.inr rfl)) (fun _ _ _ _ _ => pts_nil) (fun _ _ _ _ _ => (pe_callB c_abs (by rfl) T.b_abs (by decide +kernel) (pa_cons (pv 17) pa_nil)))) pa_nil))))
      (pss_cons (ps_setLc (i := 15) (own := [("row", 18)]) (g := gName 18) (tt := tYes) rfl sc_law.nd rfl rfl (sw_true rfl rfl rfl (by decide +kernel)) (pi_list (pv 14)) (blkOk_by (own := [("row", 18)]) (N := ["script", "kept", "at", "parts", "whole", "trees", "lows", "top", "far", "due", "first", "behind", "one", "other", "rows", "areas", "some", "number", "row"]) (sc := (defScope s_law)) (by decide +kernel)) (fun _ _ _ _ _ => pg_name (i := 18) sc_law.nd rfl (by first | exact Or.inl rfl | exact Or.inr rfl)) (fun _ _ _ _ _ => pts_nil) (fun _ _ _ _ _ => (pe_ix (ixT (K := K) rfl) (C8.pe_c c_widest hr (by decide) rfl (pa_cons (pv 18) pa_nil)) pe_int (fun _ _ => rfl))))
      (pss_one (ps_ret (pe_and (pe_cmpR op_ge (pe_ix ix_list (pv 15) pe_int (fun _ _ => rfl)) (pe_ix ix_list (pv 15) pe_int (fun _ _ => rfl)) (nomark _)) (pe_one (pe_cmpR op_ge (pe_ix ix_list (pv 15) pe_int (fun _ _ => rfl)) (pe_ix ix_list (pv 15) pe_int (fun _ _ => rfl)) (nomark _)))))))))))))))))))))), ?_⟩
    walk_at "go"
    refine ⟨a, ns, 0, 38, rfl, hS, by omega, by omega, by omega, by omega, fun k0 ms H1 nk0 s1 hk0 hml _ => ?_⟩
    have hS1 := s1.seq hS
    walk_at "go"
    refine ⟨a, ns, 40, rfl, hS1, by omega, ?_⟩
    walk_at "go"
    refine ⟨a, ns, 41, rfl, hS1, by omega, ?_⟩
    walk_at "go"
    intro e1 ne1
    generalize ns.getD (40 : Int).toNat 0 % 4 = z1
    generalize ns.getD (41 : Int).toNat 0 % 4 = z2
    have sA := same_new ne1 (.lst [V.int z1, V.int z2])
    refine r_cat (sA _ _ hk0) upd_same (by rw [List.length_map]; show ms.length + 2 ≤ _; omega) fun kp nkp => ?_
    have s2 := (s1.trans sA).trans (same_new nkp (.lst (ms.map V.int ++ [V.int z1, V.int z2])))
    have hk := @upd_same (upd H1 e1 (.lst [V.int z1, V.int z2])) kp (.lst (ms.map V.int ++ [V.int z1, V.int z2]))
    generalize upd (upd H1 e1 (.lst [V.int z1, V.int z2])) kp (.lst (ms.map V.int ++ [V.int z1, V.int z2])) = H2 at s2 hk
    obtain ⟨ks, hks, hkl⟩ : ∃ ks : List Int, ms.map V.int ++ [V.int z1, V.int z2] = ks.map V.int ∧ ks.length = ms.length + 2 := ⟨ms ++ [z1, z2], by rw [List.map_append] <;> rfl, by rw [List.length_append] <;> rfl⟩
    rw [hks] at hk
    clear sA hks hk0 nkp ne1 nk0
    have hS2 := s2.seq hS
    walk_at "go"
    refine ⟨a, ns, 42, rfl, hS2, by omega, ?_⟩
    walk_at "go"
    generalize ns.getD (42 : Int).toNat 0 = z3
    have y0 := Int.emod_nonneg z3 (show (ks.length : Int) - 1 ≠ 0 by omega)
    have y1 := Int.emod_lt_of_pos z3 (show (0 : Int) < (ks.length : Int) - 1 by omega)
    obtain ⟨at', hat⟩ : ∃ n : Nat, 1 + z3 % ((ks.length : Int) - 1) = (n : Int) := ⟨(1 + z3 % ((ks.length : Int) - 1)).toNat, by omega⟩
    rw [hat]
    walk_at "go"
    refine r_listOf (VT.SqL.lst hk) fun ha nha => ?_
    have sA := same_new nha (.lst (ks.map V.int))
    walk_at "go"
    refine mk_row (ns := ks) (VT.SqL.lst upd_same) (by omega) fun p l d H3 s3 np nl npl hp hl => ?_
    walk_at "go"
    refine ⟨p, d, l, ks, at', rfl, hp, hl, by omega, by omega, by omega, fun pa p1 l1 d1 p2 l2 d2 H4 s4 np1 nl1 np2 nl2 n12 n12' n12'' nll n11 n22 hpa hp1 hl1 hp2 hl2 => ?_⟩
    rw [show ((at' : Nat) : Int).toNat = at' by omega] at hl1 hl2
    have sB := sA.trans (s3.trans s4)
    have hk4 := sB _ _ hk
    have s04 := s2.trans sB
    walk_at "go"
    refine ⟨p1, d1, l1, p2, d2, l2, ks.take at', ks.drop at', rfl, hp1, hl1, hp2, hl2, by rw [List.length_take, List.length_drop]; omega, fun wh wl wd H5 s5 nwh nwl nwhl hwh hwl => ?_⟩
    rw [List.take_append_drop] at hwl
    have hpa5 := s5 _ _ hpa
    have hp15 := s5 _ _ hp1
    have hl15 := s5 _ _ hl1
    have hp25 := s5 _ _ hp2
    have hl25 := s5 _ _ hl2
    have hk5 := s5 _ _ hk4
    have s05 := s04.trans s5
    clear s1 s2 sA s3 s4 sB hS1 hS2 hk4 s04 s5 hp1 hl1 hp2 hl2 hpa hk
    have la : (ks.take at').length = at' := by rw [List.length_take]; omega
    have lb : (ks.drop at').length = ks.length - at' := by rw [List.length_drop]
    obtain ⟨tA, hA⟩ := cart_ex (ks.take at')
    obtain ⟨tB, hB⟩ := cart_ex (ks.drop at')
    obtain ⟨tW, hW⟩ := cart_ex ks
    walk_at "go"
    refine ⟨p1, d1, l1, _, tA, rfl, hp15, hl15, by omega, hA, fun x1 H6 nx1 s6 hx1 => ?_⟩
    have hpa6 := s6 _ _ hpa5
    walk_at "go"
    refine ⟨p2, d2, l2, _, tB, rfl, s6 _ _ hp25, s6 _ _ hl25, by omega, hB, fun x2 H7 nx2 s7 hx2 => ?_⟩
    have s57 := s6.trans s7
    walk_at "go"
    refine ⟨wh, wd, wl, _, tW, rfl, s57 _ _ hwh, s57 _ _ hwl, by omega, hW, fun x3 H8 nx3 s8 hx3 => ?_⟩
    have s58 := s57.trans s8
    walk_at "go"
    intro tr ntr
    have sC := same_new ntr (.lst [V.ref x1, V.ref x2, V.ref x3])
    have htr := @upd_same H8 tr (.lst [V.ref x1, V.ref x2, V.ref x3])
    have hx19 := sC _ _ (s8 _ _ (s7 _ _ hx1))
    have hx29 := sC _ _ (s8 _ _ hx2)
    have hx39 := sC _ _ hx3
    have s59 := s58.trans sC
    generalize upd H8 tr (.lst [V.ref x1, V.ref x2, V.ref x3]) = H9 at htr hx19 hx29 hx39 s59
    clear s6 s7 s57 s8 s58 sC hx1 hx2 hx3 nx1 nx2 nx3 hpa6
    have hpa9 := s59 _ _ hpa5
    walk_at "go"
    refine ⟨p1, d1, l1, _, 0, (at' : Int), rfl, s59 _ _ hp15, s59 _ _ hl15, by omega, by omega, by omega, by omega, fun y1' H10 m0 a0 s10 ny1 hy1 hL0 => ?_⟩
    rw [show (0 : Int).toNat = 0 from rfl, show ((at' : Nat) : Int).toNat = at' by omega] at hL0
    have hpa10 := s10 _ _ hpa9
    have hk10 := s10 _ _ (s59 _ _ hk5)
    walk_at "go"
    refine ⟨p2, d2, l2, _, 0, (ks.length : Int) - (at' : Int), rfl, s10 _ _ (s59 _ _ hp25), s10 _ _ (s59 _ _ hl25), by omega, by omega, by omega, by omega, fun y2' H11 m1 a1 s11 ny2 hy2 hL1 => ?_⟩
    rw [show (0 : Int).toNat = 0 from rfl, show ((ks.length : Int) - (at' : Int)).toNat = ks.length - at' by omega] at hL1
    walk_at "go"
    intro lo nlo
    have sD := same_new nlo (.lst [V.ref y1', V.ref y2'])
    have hlo := @upd_same H11 lo (.lst [V.ref y1', V.ref y2'])
    have hy1b := sD _ _ (s11 _ _ hy1)
    have hy2b := sD _ _ hy2
    have sE := (s10.trans s11).trans sD
    generalize upd H11 lo (.lst [V.ref y1', V.ref y2']) = H12 at hlo hy1b hy2b sE
    have htr12 := sE _ _ htr
    have hx112 := sE _ _ hx19
    have hx212 := sE _ _ hx29
    have hx312 := sE _ _ hx39
    have s512 := s59.trans sE
    have s012 := s05.trans s512
    clear s10 s11 sD sE hy1 hy2 hpa10 hk10 htr hx19 hx29 hx39 s59 hpa9 ny1 ny2
    walk_at "go"
    rw [la] at hA
    rw [lb] at hB
    have hL0' := hL0.of_take (Nat.le_refl _)
    have hL1' := hL1.of_drop
    rw [show at' + 0 = at' from rfl, show at' + (ks.length - at') = ks.length by omega] at hL1'
    have hWs := hW.size
    have hAs := hA.size
    have hBs := hB.size
    refine r_cut (fun σ H' => ∃ (h : Nat) (l r : BT) (v8 v9 : Option V), σ = [some (.ref a), some (.ref kp), some (.int (at' : Int)), some (.ref pa), some (.ref wh), some (.ref tr), some (.ref lo), some (.int (h : Int)), v8, v9, none, none, none, none, none, none, none, none, none] ∧ Same H12 H' ∧ tW = .node l r ∧ l.size = h) ?_ ?_
    · walk_at "go"
      refine brD (fun c => ?_) (fun c => ?_)
      · have hLW := hL0'.second hL1' c
        obtain ⟨lW, rW, rfl, hlW, hrW⟩ := hW.head hLW
        obtain ⟨lB, rB, rfl, hlB, hrB⟩ := hB.head hL1
        have hlWs := hlW.size
        have hlBs := hlB.size
        have hrWs := hrW.size
        have hrB' := hrB.of_drop
        rw [show at' + (ks.length - at') = ks.length by omega, show at' + (a1 + 1) = at' + a1 + 1 by omega] at hrB'
        obtain rfl := hrW.uniq hrB'
        have l2 := hL1.hi
        have l3 := hLW.hi
        obtain ⟨qs, hqs⟩ := rW.code_ints (a1 + 1) a1
        have hsh := rW.code_shift (a1 + 1) at' (some a1)
        rw [hqs, show at' + (a1 + 1) = at' + a1 + 1 by omega] at hsh
        walk_at "go"
        refine r_slL (VT.SqL.lst hx212) fun fa nfa => ?_
        rw [show (a1 : Int) + 1 = ((a1 + 1 : Nat) : Int) by omega, cut_drop (by omega) (by rw [BT.codeV_len]; omega), Int.toNat_natCast, head_drop lB rW a1 (by omega)]
        unfold BT.codeV
        rw [hqs, far_plain]
        have sF := same_new nfa (.lst (qs.map fun (q : Nat) => V.int (q : Int)))
        have hfa := @upd_same H12 fa (.lst (qs.map fun (q : Nat) => V.int (q : Int)))
        generalize upd H12 fa (.lst (qs.map fun (q : Nat) => V.int (q : Int))) = H13 at sF hfa
        have hql : qs.length = rW.size := by
          have := congrArg List.length hqs
          rw [BT.code_len, List.length_map] at this
          exact this.symm
        have htr13 := sF _ _ htr12
        have hx313 := sF _ _ hx312
        walk_at "go"
        refine r_LcL (xs := qs.map fun (q : Nat) => V.int (q : Int)) (VT.SqL.lst hfa) (farL qs at') rfl (fun i _ => by unfold farL; rw [List.length_map, List.length_take]; omega) (fun _ => rfl) (fun i y H' N Z hi s hN hZ => ?_) (fun du H14 ndu s14 hdu => ?_)
        · rw [List.getElem?_map] at hi
          cases hy : qs[i]? with
          | none => rw [hy] at hi; cases hi
          | some q =>
            rw [hy] at hi
            obtain rfl := Option.some.inj hi
            walk_at "go"
            refine iteT ?_
            walk_at "go"
            exact hN _ _ (Same.refl _) (farL_more hy)
        rw [List.length_map] at hdu
        unfold farL at hdu
        rw [List.take_length] at hdu
        have htr14 := s14 _ _ htr13
        have hx314 := s14 _ _ hx313
        walk_at "go"
        refine r_slL (VT.SqL.lst hx314) fun fb nfb => ?_
        rw [show (a1 : Int) + (at' : Int) + 1 = ((at' + a1 + 1 : Nat) : Int) by omega, cut_drop (by omega) (by rw [BT.codeV_len]; omega), Int.toNat_natCast, head_drop lW rW (at' + a1) (by omega)]
        unfold BT.codeV
        rw [show (some (at' + a1) : Option Nat) = (some a1).map (at' + ·) from rfl, hsh, far_shift]
        have sG := same_new nfb (.lst (qs.map fun (q : Nat) => V.int ((q : Int) + (at' : Int))))
        walk_at "go"
        refine r_neL (VT.SqL.lst upd_same) (VT.SqL.lst (sG _ _ hdu)) (okV_ints _ _) (okV_ints _ _) ?_
        walk_at "go"
        refine brNF rfl ?_
        walk_at "go"
        exact ⟨at' + a1, lW, rW, some (.ref fa), some (.ref du), by rw [show ((at' + a1 : Nat) : Int) = (a1 : Int) + (at' : Int) by omega] <;> rfl, (sF.trans s14).trans sG, rfl, by omega⟩
      · have hLW := hL0'.first hL1' c
        obtain ⟨lW, rW, rfl, hlW, hrW⟩ := hW.head hLW
        obtain ⟨lA, rA, rfl, hlA, hrA⟩ := hA.head hL0
        have l2 := hL0.hi
        have hlA' := hlA.of_take (by omega)
        obtain rfl := hlW.uniq hlA'
        have hlWs := hlW.size
        walk_at "go"
        refine r_slL (VT.SqL.lst hx312) fun fa nfa => ?_
        rw [cutV_top _ _ (by rw [BT.codeV_len]; omega), head_take lW rW a0 (by omega)]
        have sF := same_new nfa (.lst (lW.codeV 0 (some a0)))
        have hfa := @upd_same H12 fa (.lst (lW.codeV 0 (some a0)))
        generalize upd H12 fa (.lst (lW.codeV 0 (some a0))) = H13 at sF hfa
        have htr13 := sF _ _ htr12
        have hx113 := sF _ _ hx112
        walk_at "go"
        refine r_slL (VT.SqL.lst hx113) fun fb nfb => ?_
        rw [cutV_top _ _ (by rw [BT.codeV_len]; omega), head_take lW rA a0 (by omega)]
        have sG := same_new nfb (.lst (lW.codeV 0 (some a0)))
        refine r_neL (VT.SqL.lst (sG _ _ hfa)) (VT.SqL.lst upd_same) (BT.codeV_ok _ _ _) (BT.codeV_ok _ _ _) ?_
        walk_at "go"
        refine brNF rfl ?_
        walk_at "go"
        exact ⟨a0, lW, rW, _, _, rfl, sF.trans sG, rfl, by omega⟩
    rintro σ H13 ⟨h, lW, rW, v8, v9, rfl, s13, rfl, hlws⟩
    have hWs' : (BT.node lW rW).size = lW.size + 1 + rW.size := rfl
    have htr13 := s13 _ _ htr12
    have hx313 := s13 _ _ hx312
    have hhd : ((BT.node lW rW).codeV 0 none)[h]? = some .non := head_at lW rW h hlws
    walk_at "go"
    walk_at "andor"
    walk_at "go"
    refine iteF ?_
    walk_at "go"
    refine r_countV (VT.SqL.lst hx313) rfl (flat_ok (BT.codeV_ok _ _ _)) ?_
    rw [BT.codeV_count]
    walk_at "go"
    refine iteF ?_
    have hS13 := ((s012.trans s13)).seq hS
    walk_at "go"
    refine ⟨a, ns, 43, rfl, hS13, by omega, ?_⟩
    walk_at "go"
    generalize ns.getD (43 : Int).toNat 0 = z4
    have u0 := Int.emod_nonneg z4 (show (at' : Int) ≠ 0 by omega)
    have u1 := Int.emod_lt_of_pos z4 (show (0 : Int) < (at' : Int) by omega)
    obtain ⟨fi, hfi⟩ : ∃ n : Nat, z4 % (at' : Int) = (n : Int) := ⟨(z4 % (at' : Int)).toNat, by omega⟩
    rw [hfi]
    walk_at "go"
    refine ⟨a, ns, 44, rfl, hS13, by omega, ?_⟩
    have hk13 := s13 _ _ (s512 _ _ hk5)
    walk_at "go"
    generalize ns.getD (44 : Int).toNat 0 = z5
    have w0 := Int.emod_nonneg z5 (show (ks.length : Int) - (at' : Int) ≠ 0 by omega)
    have w1 := Int.emod_lt_of_pos z5 (show (0 : Int) < (ks.length : Int) - (at' : Int) by omega)
    obtain ⟨be, hbe⟩ : ∃ n : Nat, z5 % ((ks.length : Int) - (at' : Int)) = (n : Int) := ⟨(z5 % ((ks.length : Int) - (at' : Int))).toNat, by omega⟩
    rw [hbe]
    have s513 := s512.trans s13
    have hpa13 := s513 _ _ hpa5
    walk_at "go"
    refine ⟨p1, d1, l1, _, (fi : Int), (at' : Int), rfl, s513 _ _ hp15, s513 _ _ hl15, by omega, by omega, by omega, by omega, fun on H14 mo ao s14 non hon hLo => ?_⟩
    rw [show ((fi : Nat) : Int).toNat = fi by omega, show ((at' : Nat) : Int).toNat = at' by omega] at hLo
    have hLo' := hLo.of_take (Nat.le_refl _)
    have s514 := s513.trans s14
    have hpa14 := s14 _ _ hpa13
    walk_at "go"
    refine ⟨p2, d2, l2, _, 0, (at' : Int) + 1 + (be : Int) - (at' : Int), rfl, s514 _ _ hp25, s514 _ _ hl25, by omega, by omega, by omega, by omega, fun ot H15 mt at2 s15 not' hot hLt => ?_⟩
    rw [show (0 : Int).toNat = 0 from rfl, show ((at' : Int) + 1 + (be : Int) - (at' : Int)).toNat = be + 1 by omega] at hLt
    have hLt' := hLt.of_drop
    rw [show at' + 0 = at' from rfl, show at' + (be + 1) = at' + 1 + be by omega] at hLt'
    have hon15 := s15 _ _ hon
    have s515 := s514.trans s15
    walk_at "go"
    refine ifE_join (fun v H' => ∃ (du : Addr) (m : Int) (h : Nat), v = .ref du ∧ Same H15 H' ∧ H' du = some (.tup [.int m, .int (h : Int)]) ∧ IsLeast ks fi (at' + 1 + be) m h) ?_ ?_ ?_
    rotate_left
    · intro c kk
      refine r_var rfl ?_
      exact kk _ _ ⟨on, mo, ao, rfl, Same.refl _, hon15, hLo'.first hLt' (by omega)⟩
    · intro c kk
      walk_at "go"
      intro u nu
      refine kk _ _ ⟨u, mt, at' + at2, rfl, same_new nu _, ?_, hLo'.second hLt' (by omega)⟩
      rw [upd_same, show ((at' + at2 : Nat) : Int) = (at2 : Int) + (at' : Int) by omega] <;> rfl
    rintro v H16 ⟨du, m, hh, rfl, s16, hdu, hLd⟩
    have s516 := s515.trans s16
    have g1 := hLd.lo
    have g2 := hLd.hi
    walk_at "go"
    walk_at "andor"
    walk_at "go"
    refine ⟨wh, wd, wl, ks, (fi : Int), (at' : Int) + 1 + (be : Int), rfl, s516 _ _ hwh, s516 _ _ hwl, by omega, by omega, by omega, by omega, fun y H17 m' a' s17 ny hy hL' => ?_⟩
    rw [show ((fi : Nat) : Int).toNat = fi by omega, show ((at' : Int) + 1 + (be : Int)).toNat = at' + 1 + be by omega] at hL'
    obtain ⟨rfl, rfl⟩ := hL'.uniq hLd
    walk_at "go"
    refine r_neT (SqT.tup hy) (SqT.tup (s17 _ _ hdu)) rfl rfl ?_
    walk_at "go"
    refine brNF rfl ?_
    have s517 := s516.trans s17
    have hpa17 := s517 _ _ hpa5
    walk_at "go"
    refine ⟨wh, wd, wl, ks, rfl, s517 _ _ hwh, s517 _ _ hwl, by omega, fun y2 H18 ny2 s18 hy2 => ?_⟩
    walk_at "go"
    refine r_slL (VT.SqL.lst hy2) fun y3 ny3 => ?_
    rw [cutV_top _ _ (by rw [(nears_len _ _).1]; omega), nearsA_take (by omega)]
    have s19 := s18.trans (same_new ny3 (.lst (nearsA (ks.take at') at')))
    have hy3 := @upd_same H18 y3 (.lst (nearsA (ks.take at') at'))
    generalize upd H18 y3 (.lst (nearsA (ks.take at') at')) = H19 at s19 hy3
    have s519 := s517.trans s19
    have hpa19 := s19 _ _ hpa17
    walk_at "go"
    refine ⟨p1, d1, l1, _, rfl, s519 _ _ hp15, s519 _ _ hl15, by omega, fun y4 H20 ny4 s20 hy4 => ?_⟩
    rw [la] at hy4
    walk_at "go"
    refine r_neL (VT.SqL.lst (s20 _ _ hy3)) (VT.SqL.lst hy4) (ok_nearsA _ _) (ok_nearsA _ _) ?_
    walk_at "go"
    refine brNF rfl ?_
    have hk20 := s20 _ _ (s519 _ _ hk5)
    clear hy hy2 hy3 hy4 ny ny2 ny3 ny4 hdu hon15 hon hot s16 s17 s18 s19 s20 s516 s517 s519 hpa17 hpa19
    walk_at "go"
    refine r_slL (VT.SqL.lst hk20) fun q1 nq1 => ?_
    rw [cut_takeI (by omega) (by omega), Int.toNat_natCast]
    have sa := same_new nq1 (.lst ((ks.take at').map V.int))
    have hq1 := @upd_same H20 q1 (.lst ((ks.take at').map V.int))
    have hk21 := sa _ _ hk20
    generalize upd H20 q1 (.lst ((ks.take at').map V.int)) = H21 at sa hq1 hk21
    walk_at "go"
    refine r_slL (VT.SqL.lst hk21) fun q2 nq2 => ?_
    rw [cut_dropI (by omega) (by omega), Int.toNat_natCast]
    have sb := same_new nq2 (.lst ((ks.drop at').map V.int))
    have hq2 := @upd_same H21 q2 (.lst ((ks.drop at').map V.int))
    have hk22 := sb _ _ hk21
    have hq12 := sb _ _ hq1
    generalize upd H21 q2 (.lst ((ks.drop at').map V.int)) = H22 at sb hq2 hk22 hq12
    walk_at "go"
    intro q3 nq3
    have sc := same_new nq3 (.lst [V.ref kp, V.ref q1, V.ref q2])
    have hq3 := @upd_same H22 q3 (.lst [V.ref kp, V.ref q1, V.ref q2])
    have hk23 := sc _ _ hk22
    have hq13 := sc _ _ hq12
    have hq23 := sc _ _ hq2
    generalize upd H22 q3 (.lst [V.ref kp, V.ref q1, V.ref q2]) = H23 at sc hq3 hk23 hq13 hq23
    walk_at "go"
    refine r_LcLP (VT.SqL.lst hq3) (fun D i acc H' => acc.length = i ∧ ∀ k v, acc[k]? = some v → ∃ p dx l, v = .ref p ∧ H' p = some (.ins C dx (rowF l)) ∧ H' l = some (.lst ((absI (([ks, ks.take at', ks.drop at'] : List (List Int)).getD k [])).map V.int)) ∧ p ≠ D ∧ l ≠ D) (fun D H1 _ => ⟨rfl, fun k v e => by cases e⟩) ?_ (fun D i acc H1 hi e => by rw [e.1]; exact Nat.le_trans hi (by show 3 ≤ _; decide)) (fun _ => rfl) ?_ ?_
    · rintro D i acc H1 H2 b ⟨e1, e2⟩
      refine ⟨e1, fun k v hv => ?_⟩
      obtain ⟨p, dx, l, e3, e4, e5, e6, e7⟩ := e2 k v hv
      exact ⟨p, dx, l, e3, b _ _ e4 e6, b _ _ e5 e7, e6, e7⟩
    · rintro D i x H' acc N Z nD hx s hD ⟨e1, e2⟩ hN hZ
      obtain ⟨ad, L, rfl, hL, hLx, hLl⟩ : ∃ (ad : Addr) (L : List Int), x = .ref ad ∧ H' ad = some (.lst (L.map V.int)) ∧ ([ks, ks.take at', ks.drop at'] : List (List Int)).getD i [] = L ∧ L.length ≤ 40 := by
        match i, hx with
        | 0, hx => exact ⟨kp, ks, (Option.some.inj hx).symm, s _ _ hk23, rfl, by omega⟩
        | 1, hx => exact ⟨q1, _, (Option.some.inj hx).symm, s _ _ hq13, rfl, by omega⟩
        | 2, hx => exact ⟨q2, _, (Option.some.inj hx).symm, s _ _ hq23, rfl, by omega⟩
        | i + 3, hx => simp at hx
      walk_at "go"
      refine iteT ?_
      walk_at "go"
      refine r_LcL (xs := L.map V.int) (VT.SqL.lst hL) (absL L) rfl (fun i _ => Nat.le_trans (absL_len _ _) (by omega)) (fun _ => rfl) (fun i2 y H2 N2 Z2 hi2 s2 hN2 hZ2 => ?_) (fun E2 H2 nE s2 hE => ?_)
      · obtain ⟨y, hy, rfl⟩ := nth_int hi2
        walk_at "go"
        refine iteT ?_
        walk_at "go"
        refine r_abs ?_
        exact hN2 _ _ (Same.refl _) (absL_more hy)
      rw [List.length_map, absL_all] at hE
      walk_at "go"
      refine mk_row (ns := absI L) (VT.SqL.lst hE) (by rw [absI_len]; exact hLl) fun p l d H3 s3 np nl npl hp hl => ?_
      have s23 := s2.trans s3
      have hD2 := s2 _ _ hD
      refine hN _ _ s23 ⟨by rw [List.length_append, e1] <;> rfl, fun k v hv => ?_⟩
      by_cases c : k < acc.length
      · rw [List.getElem?_append_left c] at hv
        obtain ⟨p', dx', l', e3, e4, e5, e6, e7⟩ := e2 k v hv
        exact ⟨p', dx', l', e3, s23 _ _ e4, s23 _ _ e5, e6, e7⟩
      · rw [List.getElem?_append_right (by omega)] at hv
        have ek : k = i := by
          have := (List.getElem?_eq_some_iff.mp hv).1
          rw [List.length_singleton] at this
          omega
        subst ek
        rw [e1, Nat.sub_self] at hv
        refine ⟨p, d, l, (Option.some.inj hv).symm, hp, by rw [hLx]; exact hl, (ne_of_none hD2 np).symm, (ne_of_none hD2 nl).symm⟩
    rintro D H24 acc nD s24 hD ⟨e1, e2⟩
    replace e1 : acc.length = 3 := e1
    walk_at "go"
    refine r_LcLP (xs := acc) (VT.SqL.lst hD) (fun _ i ac _ => ac.length = i ∧ ∀ (k : Nat) (v : V), ac[k]? = some v → ∃ i d, v = V.int (areaOf (absI (([ks, ks.take at', ks.drop at'] : List (List Int)).getD k [])) i d) ∧ WideTo (absI (([ks, ks.take at', ks.drop at'] : List (List Int)).getD k [])) (fun _ _ => True) i d) (fun D H1 _ => ⟨rfl, fun k v e => by cases e⟩) (fun _ _ _ _ _ _ e => e) (fun D i acc H1 hi e => by rw [e.1]; omega) (fun _ => rfl) ?_ ?_
    · rintro D2 i x H' ac N Z nD2 hx s hD2 ⟨f1, f2⟩ hN hZ
      obtain ⟨p, dx, l, rfl, e4, e5, e6, e7⟩ := e2 i x hx
      have hlen : (absI (([ks, ks.take at', ks.drop at'] : List (List Int)).getD i [])).length ≤ 40 ∧ 0 < (absI (([ks, ks.take at', ks.drop at'] : List (List Int)).getD i [])).length := by
        rw [absI_len]
        have := (List.getElem?_eq_some_iff.mp hx).1
        match i, this with
        | 0, _ => exact ⟨show ks.length ≤ 40 by omega, show 0 < ks.length by omega⟩
        | 1, _ => exact ⟨show (ks.take at').length ≤ 40 by omega, show 0 < (ks.take at').length by omega⟩
        | 2, _ => exact ⟨show (ks.drop at').length ≤ 40 by omega, show 0 < (ks.drop at').length by omega⟩
        | i + 3, h => omega
      walk_at "go"
      refine iteT ?_
      walk_at "go"
      refine ⟨p, dx, l, _, rfl, s _ _ e4, s _ _ e5, hlen.1, hlen.2, absI_nn _, fun t H2 i2 d2 s2 nt ht hWd => ?_⟩
      walk_at "go"
      refine hN _ _ s2 ⟨by rw [List.length_append, f1] <;> rfl, fun k v hv => ?_⟩
      by_cases c : k < ac.length
      · rw [List.getElem?_append_left c] at hv
        exact f2 k v hv
      · rw [List.getElem?_append_right (by omega)] at hv
        have ek : k = i := by
          have := (List.getElem?_eq_some_iff.mp hv).1
          rw [List.length_singleton] at this
          omega
        subst ek
        rw [f1, Nat.sub_self] at hv
        exact ⟨i2, d2, (Option.some.inj hv).symm, hWd⟩
    rintro D2 H25 ac nD2 s25 hD2 ⟨f1, f2⟩
    rw [e1] at f1
    match ac, f1 with
    | [v0, v1, v2], _ =>
      obtain ⟨i0, j0, rfl, w0'⟩ := f2 0 v0 rfl
      obtain ⟨i1, j1, rfl, w1'⟩ := f2 1 v1 rfl
      obtain ⟨i2, j2, rfl, w2'⟩ := f2 2 v2 rfl
      have r1 : areaOf (absI (ks.take at')) i1 j1 ≤ areaOf (absI ks) i0 j0 := by
        have := w1'.there
        rw [show ([ks, ks.take at', ks.drop at'] : List (List Int)).getD 1 [] = ks.take at' from rfl, absI_take] at this
        rw [absI_take]
        exact wide_take w0' this
      have r2 : areaOf (absI (ks.drop at')) i2 j2 ≤ areaOf (absI ks) i0 j0 := by
        have := w2'.there
        rw [show ([ks, ks.take at', ks.drop at'] : List (List Int)).getD 2 [] = ks.drop at' from rfl, absI_drop] at this
        rw [absI_drop]
        exact wide_drop w0' this
      walk_at "go"
      refine brT r1 ?_
      walk_at "go"
      have e9 : decide (areaOf (absI (([ks, ks.take at', ks.drop at'] : List (List Int)).getD 2 [])) i2 j2 ≤ areaOf (absI (([ks, ks.take at', ks.drop at'] : List (List Int)).getD 0 [])) i0 j0) = true := decide_eq_true r2
      rw [e9]
      exact k _
end
theorem all_mk {l : PySem.W.OpenLaw} {w : World} {K : PySem.W.Frag} {h : Heap} {mg : Str → Option Value} {fa C : Addr} {f1 f2 f3 f4 f5 f6 f7 f8 f9 f10 f11 f12 f13 f14 f15 f16 f17 : Addr} (X : K.In h) (G : h.Ns mainGlobals mg) (hfa : mg "law" = some (.ref fa))
    (aC : PySem.W.nsIn K mainGlobals "Row" = some (some (.ref C))) (pg : PySem.W.plainGet K C Str.empty = true) (hd : PySem.W.hasDictIn K C = true) (po : PySem.W.plainOver K C = true) (sa : PySem.W.findIn K (.ref C) "__setattr__" = some (some (.builtin "object.__setattr__"))) (mk : PySem.W.makesIn K C = true) (kc : PySem.W.keepIn K (.ref C) = true) (nK : PySem.W.findIn K (.ref C) "kept" = some none)
    {od1 an1 : Option Addr} {sl1 : Array (Option Value)} {oc1 kV1 dc1 pm1 cd1 ct1 : Value}
    (a1 : PySem.W.findIn K (.ref C) "__init__" = some (some (.ref f1))) (i1 : PySem.W.isFn K (.ref f1) = true)
    (l1 : K.lookup f1 = some ⟨oc1, od1, .func (PySem.W.fnOf "__init__" "Row.__init__" (defArgs s_Row___init__) (defBody s_Row___init__) (defScope s_Row___init__) .none kV1 dc1 pm1 an1 cd1 ct1), sl1⟩) (c1 : PySem.W.codeIn K cd1 "Row.__init__" = true) (k1 : PySem.W.keepIn K (.ref f1) = true)
    {od2 an2 : Option Addr} {sl2 : Array (Option Value)} {oc2 kV2 dc2 pm2 cd2 ct2 : Value}
    (a2 : PySem.W.findIn K (.ref C) "ask" = some (some (.ref f2))) (i2 : PySem.W.isFn K (.ref f2) = true)
    (l2 : K.lookup f2 = some ⟨oc2, od2, .func (PySem.W.fnOf "ask" "Row.ask" (defArgs s_Row_ask) (defBody s_Row_ask) (defScope s_Row_ask) .none kV2 dc2 pm2 an2 cd2 ct2), sl2⟩) (c2 : PySem.W.codeIn K cd2 "Row.ask" = true) (k2 : PySem.W.keepIn K (.ref f2) = true)
    {od3 an3 : Option Addr} {sl3 : Array (Option Value)} {oc3 kV3 dc3 pm3 cd3 ct3 : Value}
    (a3 : PySem.W.findIn K (.ref C) "ask_stretch" = some (some (.ref f3))) (i3 : PySem.W.isFn K (.ref f3) = true)
    (l3 : K.lookup f3 = some ⟨oc3, od3, .func (PySem.W.fnOf "ask_stretch" "Row.ask_stretch" (defArgs s_Row_ask_stretch) (defBody s_Row_ask_stretch) (defScope s_Row_ask_stretch) .none kV3 dc3 pm3 an3 cd3 ct3), sl3⟩) (c3 : PySem.W.codeIn K cd3 "Row.ask_stretch" = true) (k3 : PySem.W.keepIn K (.ref f3) = true)
    {od4 an4 : Option Addr} {sl4 : Array (Option Value)} {oc4 kV4 dc4 pm4 cd4 ct4 : Value}
    (a4 : PySem.W.findIn K (.ref C) "numbers" = some (some (.ref f4))) (i4 : PySem.W.isFn K (.ref f4) = true)
    (l4 : K.lookup f4 = some ⟨oc4, od4, .func (PySem.W.fnOf "numbers" "Row.numbers" (defArgs s_Row_numbers) (defBody s_Row_numbers) (defScope s_Row_numbers) .none kV4 dc4 pm4 an4 cd4 ct4), sl4⟩) (c4 : PySem.W.codeIn K cd4 "Row.numbers" = true) (k4 : PySem.W.keepIn K (.ref f4) = true)
    {od5 an5 : Option Addr} {sl5 : Array (Option Value)} {oc5 kV5 dc5 pm5 cd5 ct5 : Value}
    (a5 : PySem.W.findIn K (.ref C) "cut" = some (some (.ref f5))) (i5 : PySem.W.isFn K (.ref f5) = true)
    (l5 : K.lookup f5 = some ⟨oc5, od5, .func (PySem.W.fnOf "cut" "Row.cut" (defArgs s_Row_cut) (defBody s_Row_cut) (defScope s_Row_cut) .none kV5 dc5 pm5 an5 cd5 ct5), sl5⟩) (c5 : PySem.W.codeIn K cd5 "Row.cut" = true) (k5 : PySem.W.keepIn K (.ref f5) = true)
    {od6 an6 : Option Addr} {sl6 : Array (Option Value)} {oc6 kV6 dc6 pm6 cd6 ct6 : Value}
    (a6 : PySem.W.nsIn K mainGlobals "joined" = some (some (.ref f6)))
    (l6 : K.lookup f6 = some ⟨oc6, od6, .func (PySem.W.fnOf "joined" "joined" (defArgs s_joined) (defBody s_joined) (defScope s_joined) .none kV6 dc6 pm6 an6 cd6 ct6), sl6⟩) (c6 : PySem.W.codeIn K cd6 "joined" = true) (k6 : PySem.W.keepIn K (.ref f6) = true)
    {od7 an7 : Option Addr} {sl7 : Array (Option Value)} {oc7 kV7 dc7 pm7 cd7 ct7 : Value}
    (a7 : PySem.W.nsIn K mainGlobals "least" = some (some (.ref f7)))
    (l7 : K.lookup f7 = some ⟨oc7, od7, .func (PySem.W.fnOf "least" "least" (defArgs s_least) (defBody s_least) (defScope s_least) .none kV7 dc7 pm7 an7 cd7 ct7), sl7⟩) (c7 : PySem.W.codeIn K cd7 "least" = true) (k7 : PySem.W.keepIn K (.ref f7) = true)
    {od8 an8 : Option Addr} {sl8 : Array (Option Value)} {oc8 kV8 dc8 pm8 cd8 ct8 : Value}
    (a8 : PySem.W.nsIn K mainGlobals "lesser_ahead" = some (some (.ref f8)))
    (l8 : K.lookup f8 = some ⟨oc8, od8, .func (PySem.W.fnOf "lesser_ahead" "lesser_ahead" (defArgs s_lesser_ahead) (defBody s_lesser_ahead) (defScope s_lesser_ahead) .none kV8 dc8 pm8 an8 cd8 ct8), sl8⟩) (c8 : PySem.W.codeIn K cd8 "lesser_ahead" = true) (k8 : PySem.W.keepIn K (.ref f8) = true)
    {od9 an9 : Option Addr} {sl9 : Array (Option Value)} {oc9 kV9 dc9 pm9 cd9 ct9 : Value}
    (a9 : PySem.W.nsIn K mainGlobals "ask_sky" = some (some (.ref f9)))
    (l9 : K.lookup f9 = some ⟨oc9, od9, .func (PySem.W.fnOf "ask_sky" "ask_sky" (defArgs s_ask_sky) (defBody s_ask_sky) (defScope s_ask_sky) .none kV9 dc9 pm9 an9 cd9 ct9), sl9⟩) (c9 : PySem.W.codeIn K cd9 "ask_sky" = true) (k9 : PySem.W.keepIn K (.ref f9) = true)
    {od10 an10 : Option Addr} {sl10 : Array (Option Value)} {oc10 kV10 dc10 pm10 cd10 ct10 : Value}
    (a10 : PySem.W.nsIn K mainGlobals "widest" = some (some (.ref f10)))
    (l10 : K.lookup f10 = some ⟨oc10, od10, .func (PySem.W.fnOf "widest" "widest" (defArgs s_widest) (defBody s_widest) (defScope s_widest) .none kV10 dc10 pm10 an10 cd10 ct10), sl10⟩) (c10 : PySem.W.codeIn K cd10 "widest" = true) (k10 : PySem.W.keepIn K (.ref f10) = true)
    {od11 an11 : Option Addr} {sl11 : Array (Option Value)} {oc11 kV11 dc11 pm11 cd11 ct11 : Value}
    (a11 : PySem.W.nsIn K mainGlobals "over" = some (some (.ref f11)))
    (l11 : K.lookup f11 = some ⟨oc11, od11, .func (PySem.W.fnOf "over" "over" (defArgs s_over) (defBody s_over) (defScope s_over) .none kV11 dc11 pm11 an11 cd11 ct11), sl11⟩) (c11 : PySem.W.codeIn K cd11 "over" = true) (k11 : PySem.W.keepIn K (.ref f11) = true)
    {od12 an12 : Option Addr} {sl12 : Array (Option Value)} {oc12 kV12 dc12 pm12 cd12 ct12 : Value}
    (a12 : PySem.W.nsIn K mainGlobals "tree_over" = some (some (.ref f12)))
    (l12 : K.lookup f12 = some ⟨oc12, od12, .func (PySem.W.fnOf "tree_over" "tree_over" (defArgs s_tree_over) (defBody s_tree_over) (defScope s_tree_over) .none kV12 dc12 pm12 an12 cd12 ct12), sl12⟩) (c12 : PySem.W.codeIn K cd12 "tree_over" = true) (k12 : PySem.W.keepIn K (.ref f12) = true)
    {od13 an13 : Option Addr} {sl13 : Array (Option Value)} {oc13 kV13 dc13 pm13 cd13 ct13 : Value}
    (a13 : PySem.W.nsIn K mainGlobals "tree_of" = some (some (.ref f13)))
    (l13 : K.lookup f13 = some ⟨oc13, od13, .func (PySem.W.fnOf "tree_of" "tree_of" (defArgs s_tree_of) (defBody s_tree_of) (defScope s_tree_of) .none kV13 dc13 pm13 an13 cd13 ct13), sl13⟩) (c13 : PySem.W.codeIn K cd13 "tree_of" = true) (k13 : PySem.W.keepIn K (.ref f13) = true)
    {od14 an14 : Option Addr} {sl14 : Array (Option Value)} {oc14 kV14 dc14 pm14 cd14 ct14 : Value}
    (a14 : PySem.W.nsIn K mainGlobals "_law_cell_at" = some (some (.ref f14)))
    (l14 : K.lookup f14 = some ⟨oc14, od14, .func (PySem.W.fnOf "_law_cell_at" "_law_cell_at" (defArgs s__law_cell_at) (defBody s__law_cell_at) (defScope s__law_cell_at) .none kV14 dc14 pm14 an14 cd14 ct14), sl14⟩) (c14 : PySem.W.codeIn K cd14 "_law_cell_at" = true) (k14 : PySem.W.keepIn K (.ref f14) = true)
    {od15 an15 : Option Addr} {sl15 : Array (Option Value)} {oc15 kV15 dc15 pm15 cd15 ct15 : Value}
    (a15 : PySem.W.nsIn K mainGlobals "_law_draw" = some (some (.ref f15)))
    (l15 : K.lookup f15 = some ⟨oc15, od15, .func (PySem.W.fnOf "_law_draw" "_law_draw" (defArgs s__law_draw) (defBody s__law_draw) (defScope s__law_draw) .none kV15 dc15 pm15 an15 cd15 ct15), sl15⟩) (c15 : PySem.W.codeIn K cd15 "_law_draw" = true) (k15 : PySem.W.keepIn K (.ref f15) = true)
    {od16 an16 : Option Addr} {sl16 : Array (Option Value)} {oc16 kV16 dc16 pm16 cd16 ct16 : Value}
    (a16 : PySem.W.nsIn K mainGlobals "_law_row" = some (some (.ref f16)))
    (l16 : K.lookup f16 = some ⟨oc16, od16, .func (PySem.W.fnOf "_law_row" "_law_row" (defArgs s__law_row) (defBody s__law_row) (defScope s__law_row) .none kV16 dc16 pm16 an16 cd16 ct16), sl16⟩) (c16 : PySem.W.codeIn K cd16 "_law_row" = true) (k16 : PySem.W.keepIn K (.ref f16) = true)
    {od17 an17 : Option Addr} {sl17 : Array (Option Value)} {oc17 kV17 dc17 pm17 cd17 ct17 : Value}
    (a17 : PySem.W.nsIn K mainGlobals "law" = some (some (.ref f17)))
    (l17 : K.lookup f17 = some ⟨oc17, od17, .func (PySem.W.fnOf "law" "law" (defArgs s_law) (defBody s_law) (defScope s_law) .none kV17 dc17 pm17 an17 cd17 ct17), sl17⟩) (c17 : PySem.W.codeIn K cd17 "law" = true) (k17 : PySem.W.keepIn K (.ref f17) = true)
    (z_abs : PySem.W.nsIn K mainGlobals "abs" = some none)
    (z_len : PySem.W.nsIn K mainGlobals "len" = some none)
    (z_list : PySem.W.nsIn K mainGlobals "list" = some none)
    (z_min : PySem.W.nsIn K mainGlobals "min" = some none)
    (z_range : PySem.W.nsIn K mainGlobals "range" = some none)
    {tk_MOST : Tok} (g_MOST : PySem.W.nsIn K mainGlobals "MOST" = some (some (.int 40 tk_MOST)))
    : ∃ fd : FuncData, (∀ (s : Shared) (v : Value), BindsTo s fd ⟨[v], []⟩ [("script", v)]) ∧ ∀ base : Heap, K.In base → base.Ns mainGlobals mg → FnOk l.prog w K mg base CX0 45 fa fd ["script"] (sp_law K 0) := by
  have e := hfa.symm.trans (PySem.W.mg_of X G a17)
  cases e
  have T : Txt K mg C := { cl := ⟨pg, hd, po, sa⟩, nK := nK, mgC := PySem.W.mg_of X G aC, b_abs := PySem.W.mg_none_of X G z_abs, b_len := PySem.W.mg_none_of X G z_len, b_list := PySem.W.mg_none_of X G z_list, b_min := PySem.W.mg_none_of X G z_min, b_range := PySem.W.mg_none_of X G z_range, g_MOST := ⟨_, PySem.W.mg_of X G g_MOST, ⟨_, rfl⟩⟩ }
  have F1 := fun_mk (st := s_Row___init__) l1 c1 k1
  have b1 := F1.binds (ps := ["self", "numbers"]) fun _ _ _ _ _ _ us hl => match us, hl with | [_, _], _ => rfl
  have F2 := fun_mk (st := s_Row_ask) l2 c2 k2
  have b2 := F2.binds (ps := ["self", "place", "many"]) fun _ _ _ _ _ _ us hl => match us, hl with | [_, _, _], _ => rfl
  have F3 := fun_mk (st := s_Row_ask_stretch) l3 c3 k3
  have b3 := F3.binds (ps := ["self", "first", "behind"]) fun _ _ _ _ _ _ us hl => match us, hl with | [_, _, _], _ => rfl
  have F4 := fun_mk (st := s_Row_numbers) l4 c4 k4
  have b4 := F4.binds (ps := ["self"]) fun _ _ _ _ _ _ us hl => match us, hl with | [_], _ => rfl
  have F5 := fun_mk (st := s_Row_cut) l5 c5 k5
  have b5 := F5.binds (ps := ["self", "place"]) fun _ _ _ _ _ _ us hl => match us, hl with | [_, _], _ => rfl
  have F6 := fun_mk (st := s_joined) l6 c6 k6
  have b6 := F6.binds (ps := ["one", "other"]) fun _ _ _ _ _ _ us hl => match us, hl with | [_, _], _ => rfl
  have F7 := fun_mk (st := s_least) l7 c7 k7
  have b7 := F7.binds (ps := ["row", "first", "behind"]) fun _ _ _ _ _ _ us hl => match us, hl with | [_, _, _], _ => rfl
  have F8 := fun_mk (st := s_lesser_ahead) l8 c8 k8
  have b8 := F8.binds (ps := ["row"]) fun _ _ _ _ _ _ us hl => match us, hl with | [_], _ => rfl
  have F9 := fun_mk (st := s_ask_sky) l9 c9 k9
  have b9 := F9.binds (ps := ["numbers"]) fun _ _ _ _ _ _ us hl => match us, hl with | [_], _ => rfl
  have F10 := fun_mk (st := s_widest) l10 c10 k10
  have b10 := F10.binds (ps := ["row"]) fun _ _ _ _ _ _ us hl => match us, hl with | [_], _ => rfl
  have F11 := fun_mk (st := s_over) l11 c11 k11
  have b11 := F11.binds (ps := ["numbers", "first", "behind", "top", "found"]) fun _ _ _ _ _ _ us hl => match us, hl with | [_, _, _, _, _], _ => rfl
  have F12 := fun_mk (st := s_tree_over) l12 c12 k12
  have b12 := F12.binds (ps := ["numbers"]) fun _ _ _ _ _ _ us hl => match us, hl with | [_], _ => rfl
  have F13 := fun_mk (st := s_tree_of) l13 c13 k13
  have b13 := F13.binds (ps := ["row"]) fun _ _ _ _ _ _ us hl => match us, hl with | [_], _ => rfl
  have F14 := fun_mk (st := s__law_cell_at) l14 c14 k14
  have b14 := F14.binds (ps := ["script", "k"]) fun _ _ _ _ _ _ us hl => match us, hl with | [_, _], _ => rfl
  have F15 := fun_mk (st := s__law_draw) l15 c15 k15
  have b15 := F15.binds (ps := ["cell", "k", "bound"]) fun _ _ _ _ _ _ us hl => match us, hl with | [_, _, _], _ => rfl
  have F16 := fun_mk (st := s__law_row) l16 c16 k16
  have b16 := F16.binds (ps := ["script", "at", "most"]) fun _ _ _ _ _ _ us hl => match us, hl with | [_, _, _], _ => rfl
  have F17 := fun_mk (st := s_law) l17 c17 k17
  have b17 := F17.binds (ps := ["script"]) fun _ _ _ _ _ _ us hl => match us, hl with | [_], _ => rfl
  refine ⟨PySem.W.fnOf "law" "law" (defArgs s_law) (defBody s_law) (defScope s_law) .none kV17 dc17 pm17 an17 cd17 ct17, fun s v => .of_eq rfl, fun base _ _ => ?_⟩
  have c_Row : C8.Mak l.prog w K mg base 1 "Row" C (sp_Row___init__ K C) [] := ⟨f1, _, ["self", "numbers"], [], ⟨mk, a1, i1, kc⟩, ok_Row___init__ F1 T , T.mgC, b1, .nil⟩
  have c_Row_ask : C8.Met l.prog w K mg base 1 C "ask" (sp_Row_ask K C) [] := ⟨f2, _, ["self", "place", "many"], [], T.cl, ⟨a2, i2, k2⟩, ok_Row_ask F2 T , b2, .nil⟩
  have c_Row_ask_stretch : C8.Met l.prog w K mg base 1 C "ask_stretch" (sp_Row_ask_stretch K C) [] := ⟨f3, _, ["self", "first", "behind"], [], T.cl, ⟨a3, i3, k3⟩, ok_Row_ask_stretch F3 T , b3, .nil⟩
  have c_Row_numbers : C8.Met l.prog w K mg base 1 C "numbers" (sp_Row_numbers K C) [] := ⟨f4, _, ["self"], [], T.cl, ⟨a4, i4, k4⟩, ok_Row_numbers F4 T , b4, .nil⟩
  have c_Row_cut : C8.Met l.prog w K mg base 3 C "cut" (sp_Row_cut K C) [] := ⟨f5, _, ["self", "place"], [], T.cl, ⟨a5, i5, k5⟩, ok_Row_cut F5 T c_Row c_Row_ask, b5, .nil⟩
  have c_joined : C8.Cal l.prog w K mg base 3 "joined" (sp_joined K C) [] := ⟨f6, _, ["one", "other"], [], ok_joined F6 T c_Row c_Row_numbers, PySem.W.mg_of X G a6, k6, b6, .nil⟩
  have c_least : C8.Cal l.prog w K mg base 2 "least" (sp_least K C) [] := ⟨f7, _, ["row", "first", "behind"], [], ok_least F7 T c_Row_numbers c_Row_ask_stretch, PySem.W.mg_of X G a7, k7, b7, .nil⟩
  have c_lesser_ahead : C8.Cal l.prog w K mg base 2 "lesser_ahead" (sp_lesser_ahead K C) [] := ⟨f8, _, ["row"], [], ok_lesser_ahead F8 T c_Row_numbers, PySem.W.mg_of X G a8, k8, b8, .nil⟩
  have c_ask_sky : C8.Cal l.prog w K mg base 1 "ask_sky" (sp_ask_sky K C) [] := ⟨f9, _, ["numbers"], [], ok_ask_sky F9 T , PySem.W.mg_of X G a9, k9, b9, .nil⟩
  have c_widest : C8.Cal l.prog w K mg base 2 "widest" (sp_widest K C) [] := ⟨f10, _, ["row"], [], ok_widest F10 T c_ask_sky c_Row_numbers, PySem.W.mg_of X G a10, k10, b10, .nil⟩
  have c_over : ∀ n : Nat, C8.Cal l.prog w K mg base (0 + n) "over" (sp_over K C n) [] := by
    intro n
    induction n with
    | zero => exact ⟨_, _, ["numbers", "first", "behind", "top", "found"], [], fnOk_no no_over, PySem.W.mg_of X G a11, k11, b11, .nil⟩
    | succ n ih => exact ⟨_, _, ["numbers", "first", "behind", "top", "found"], [], ok_over F11 T ih, PySem.W.mg_of X G a11, k11, b11, .nil⟩
  replace c_over := c_over 42
  have c_tree_over : C8.Cal l.prog w K mg base 43 "tree_over" (sp_tree_over K C) [] := ⟨f12, _, ["numbers"], [], ok_tree_over F12 T c_over, PySem.W.mg_of X G a12, k12, b12, .nil⟩
  have c_tree_of : C8.Cal l.prog w K mg base 44 "tree_of" (sp_tree_of K C) [] := ⟨f13, _, ["row"], [], ok_tree_of F13 T c_tree_over c_Row_numbers, PySem.W.mg_of X G a13, k13, b13, .nil⟩
  have c__law_cell_at : C8.Cal l.prog w K mg base 1 "_law_cell_at" (sp__law_cell_at K C) [] := ⟨f14, _, ["script", "k"], [], ok__law_cell_at F14 T , PySem.W.mg_of X G a14, k14, b14, .nil⟩
  have c__law_draw : C8.Cal l.prog w K mg base 1 "_law_draw" (sp__law_draw K C) [] := ⟨f15, _, ["cell", "k", "bound"], [], ok__law_draw F15 T , PySem.W.mg_of X G a15, k15, b15, .nil⟩
  have c__law_row : C8.Cal l.prog w K mg base 2 "_law_row" (sp__law_row K C) [] := ⟨f16, _, ["script", "at", "most"], [], ok__law_row F16 T c__law_draw c__law_cell_at, PySem.W.mg_of X G a16, k16, b16, .nil⟩
  have z := ok_law (P := l.prog) (w := w) (base := base) F17 T c_widest c_Row c_lesser_ahead c_least c__law_cell_at c_tree_of c_joined c_Row_cut c__law_row
  exact z
end VT
open PySem PySem.W PyProof.Rows
set_option maxRecDepth 100000 in
set_option maxHeartbeats 0 in
theorem PySem.Challenge.cw_valleytree_k14_whole_cut_and_joined_holds : PySem.Challenge.rw_valleytree_k14_whole_cut_and_joined.Holds := by
  w_on; o_law; k_head; (case hw => w_witness2)
  k_fill
  refine L2.walk_of (l := PySem.Challenge.rw_valleytree_k14_whole_cut_and_joined) (n := 63) (k := 45) (x := "script") (CX := fun _ => L2.CX0) (sp := fun w => VT.sp_law _ 0) rfl (by decide) rfl ⟨rfl, by decide, by decide⟩ (fun w h Y => PySem.W.kIn_of Y) ?F (fun _ _ a ns hl _ hS => VT.law_in hS hl) (fun _ _ _ _ _ h => h)
  case F =>
    intro w mg fa h KX G hmg
    refine' VT.all_mk KX G hmg ?aC ?pg ?hd ?po ?sa ?mk ?kc ?nK ?a1 ?i1 ?l1 ?c1 ?k1 ?a2 ?i2 ?l2 ?c2 ?k2 ?a3 ?i3 ?l3 ?c3 ?k3 ?a4 ?i4 ?l4 ?c4 ?k4 ?a5 ?i5 ?l5 ?c5 ?k5 ?a6 ?l6 ?c6 ?k6 ?a7 ?l7 ?c7 ?k7 ?a8 ?l8 ?c8 ?k8 ?a9 ?l9 ?c9 ?k9 ?a10 ?l10 ?c10 ?k10 ?a11 ?l11 ?c11 ?k11 ?a12 ?l12 ?c12 ?k12 ?a13 ?l13 ?c13 ?k13 ?a14 ?l14 ?c14 ?k14 ?a15 ?l15 ?c15 ?k15 ?a16 ?l16 ?c16 ?k16 ?a17 ?l17 ?c17 ?k17 ?z_abs ?z_len ?z_list ?z_min ?z_range ?g_MOST
    (case aC => k_is)
    (case pg => k_is)
    (case hd => k_is)
    (case po => k_is)
    (case sa => k_is)
    (case mk => k_is)
    (case kc => k_is)
    (case nK => k_is)
    (case a1 => k_is)
    (case i1 => k_is)
    (case l1 => k_is)
    (case c1 => k_is)
    (case k1 => k_is)
    (case a2 => k_is)
    (case i2 => k_is)
    (case l2 => k_is)
    (case c2 => k_is)
    (case k2 => k_is)
    (case a3 => k_is)
    (case i3 => k_is)
    (case l3 => k_is)
    (case c3 => k_is)
    (case k3 => k_is)
    (case a4 => k_is)
    (case i4 => k_is)
    (case l4 => k_is)
    (case c4 => k_is)
    (case k4 => k_is)
    (case a5 => k_is)
    (case i5 => k_is)
    (case l5 => k_is)
    (case c5 => k_is)
    (case k5 => k_is)
    (case a6 => k_is)
    (case l6 => k_is)
    (case c6 => k_is)
    (case k6 => k_is)
    (case a7 => k_is)
    (case l7 => k_is)
    (case c7 => k_is)
    (case k7 => k_is)
    (case a8 => k_is)
    (case l8 => k_is)
    (case c8 => k_is)
    (case k8 => k_is)
    (case a9 => k_is)
    (case l9 => k_is)
    (case c9 => k_is)
    (case k9 => k_is)
    (case a10 => k_is)
    (case l10 => k_is)
    (case c10 => k_is)
    (case k10 => k_is)
    (case a11 => k_is)
    (case l11 => k_is)
    (case c11 => k_is)
    (case k11 => k_is)
    (case a12 => k_is)
    (case l12 => k_is)
    (case c12 => k_is)
    (case k12 => k_is)
    (case a13 => k_is)
    (case l13 => k_is)
    (case c13 => k_is)
    (case k13 => k_is)
    (case a14 => k_is)
    (case l14 => k_is)
    (case c14 => k_is)
    (case k14 => k_is)
    (case a15 => k_is)
    (case l15 => k_is)
    (case c15 => k_is)
    (case k15 => k_is)
    (case a16 => k_is)
    (case l16 => k_is)
    (case c16 => k_is)
    (case k16 => k_is)
    (case a17 => k_is)
    (case l17 => k_is)
    (case c17 => k_is)
    (case k17 => k_is)
    (case z_abs => k_is)
    (case z_len => k_is)
    (case z_list => k_is)
    (case z_min => k_is)
    (case z_range => k_is)
    (case g_MOST => k_is)
#print axioms PySem.Challenge.cw_valleytree_k14_whole_cut_and_joined_holds
