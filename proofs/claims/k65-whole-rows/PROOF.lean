import PyProof.Rows.All
import Wide.All
import OpenK.AllK
import Wide.FinOn
import KE.GoesMore
import HandS.ForMost
import HandS.Codes
import HandS.SortOrd
import HandS.SortRule
import HandS.SortInts
import HandS.Style
import HandS.Evl
import PySem.Challenge.RW_linegrow_k65_whole_rows_alike_at_great_p
import HandS.Walk
import HandS.IsInst
import HandS.Wide
import HandS.NoneIn
import HandS.DictComp
import HandS.RevRange
import HandS.Exc
import HandS.TryOnly
import HandS.ExcOwn
import HandS.WordsExc
set_option Elab.async false
set_option linter.all false
set_option maxRecDepth 100000
/-! rules of our own beside the layer's: enumerate of a text, sorted of pairs (one letter, text), text * int, text[::-1] -/
namespace Lg
open PySem PySem.Spec PyProof.Rows L2

/-! ### enumerate(text) -/
def IteS (x : Str) : It := ⟨fun i _ => i < x.cps.size, fun i H v H' => ∃ T c, v = .ref T ∧ H T = none ∧ H' = upd H T (.tup [.int (i : Nat), .str ⟨#[c]⟩]) ∧ x.cps[i]? = some c, fun i _ => x.cps.size = i⟩
theorem turn_enumS {P : Program} {w : World} {K : PySem.W.Frag} {elts : List Expr} {kk : Nat} {tpos : Pos} (e it : Addr) (x : Str) (t : Tok) :
    Turn P w K (.Tuple elts kk tpos) (IteS x) [e, it] e (fun i h => (∃ old, IsEnum h e it ((i : Nat) : Int) old) ∧ h.IsStrIter it (strIterType x) x t i ∧ e ≠ it) where
  mem := by simp
  obj := fun i h st b hb => by
    obtain ⟨⟨old, he⟩, ⟨o, ho, hc, hd⟩, _⟩ := st
    have e' : b = e ∨ b = it := by simpa using hb
    rcases e' with z | z
    · rw [z]; exact ⟨_, he, fun v q => nomatch q⟩
    · rw [z]; exact ⟨o, ho, fun v q => by rw [hd] at q; cases q⟩
  keep := fun i h h' st k => let ⟨⟨old, he⟩, ⟨o, ho, hcd⟩, hne⟩ := st; ⟨⟨old, k e (by simp) _ he⟩, ⟨o, k it (by simp) _ ho, hcd⟩, hne⟩
  item := by
    intro X hP hw hK hc i pins s σ H E I hf st hg
    subst hP hw hK
    obtain ⟨⟨old, he⟩, hit, hne⟩ := st
    have hel : e < s.heap.objs.size := Heap.lt_size he
    have hil : it < s.heap.objs.size := by obtain ⟨_, q, _⟩ := hit; exact Heap.lt_size q
    refine wpAny_pyNext_enum_itemD (fp := [it]) (Draws.text (prog := X.prog) (w := X.w) (A := X.A.in1) (I.ok.hd hc) it x t) he hit hg hne (by simpa using hne) fun v h' tk hv ho hit' hT hsz hk => ?_
    obtain ⟨c, u, hcx, rfl⟩ := hv
    refine ⟨_, rfl, wpAny_letOwnedTupleGo_enum (s := { s with heap := h', toks := tk + 1 }) ho fun h'' he' sb => ?_⟩
    have hT2 : h''.get? s.heap.objs.size = some { cls := .type "tuple", data := .seq #[.int i tk, .str ⟨#[c]⟩ u] } := (sb.2 _ (Nat.ne_of_gt hel)).trans hT
    have new : ObjOk X.prog X.w (upd H s.heap.objs.size (.tup [.int (i : Nat), .str ⟨#[c]⟩])) h'' s.heap.objs.size (.tup [.int (i : Nat), .str ⟨#[c]⟩]) :=
      ⟨by show 2 ≤ sizeLine; decide, [.int i tk, .str ⟨#[c]⟩ u], .cons ⟨_, rfl⟩ (.cons ⟨_, rfl⟩ .nil), ⟨_, hT2, rfl, _, rfl⟩⟩
    have I1 : Inv X pins σ (upd H s.heap.objs.size (.tup [.int (i : Nat), .str ⟨#[c]⟩])) { s with heap := h'', toks := tk + 1 } :=
      I.turnedNew (ch := [e, it]) (fun b ob hb q => (sb.2 b (fun z => hb (by simp [z]))).trans (hk b ob (fun z => hb (by simp [z])) (fun z => hb (by simp [z])) q)) hf (Nat.le_refl _) new
    refine ⟨.ref s.heap.objs.size, _, I1, rfl, ⟨_, c, rfl, I.hok.fresh (Nat.le_refl _), rfl, hcx⟩, ⟨⟨.str ⟨#[c]⟩ u, ?_⟩, ?_, hne⟩, fun b hb => ?_⟩
    · have e1 : ((i + 1 : Nat) : Int) = (i : Int) + 1 := by omega
      rw [e1]; exact he'
    · obtain ⟨o, q, r⟩ := hit'
      exact ⟨o, (sb.2 it (Ne.symm hne)).trans q, r⟩
    · have hb' : b < s.heap.objs.size := by
        have e' : b = e ∨ b = it := by simpa using hb
        rcases e' with z | z
        · rw [z]; exact hel
        · rw [z]; exact hil
      rw [upd_ne (Nat.ne_of_lt hb')]
      exact (hf b hb).1
  done := by
    intro X hP hw hK hc i pins s σ H E I hf st hg
    subst hP hw hK
    obtain ⟨⟨old, he⟩, hit, hne⟩ := st
    obtain ⟨f0, f1, f2, f3, f4, f5⟩ := hf it (by simp)
    have hg' : x.cps.size = i := hg
    subst hg'
    exact wpAny_pyNext_enum_endD (fp := [it]) (Draws.text (prog := X.prog) (w := X.w) (A := X.A.in1) (I.ok.hd hc) it x t) he hit fun h' eb => ⟨rfl, I.turned (t' := s.toks) (fun b o hb q => eb b o hb q) f0 f1 f3 f4 f5⟩
  self := fun A i s Q E st h => let ⟨⟨_, he⟩, _⟩ := st; wpAny_pyIter_enum he h
def iEnumS (ta : TA) : TI := fun σ H R => ta σ H fun vs H1 => ∃ x, vs = [.str x] ∧ R (IteS x) H1
theorem pi_enumS {X : Cx} {e : Expr} {ta : TA} {p pos tpos : Pos} {elts : List Expr} {kk : Nat} (hg : Gl X "enumerate") (hm : X.mg "enumerate" = none) (ha : PA X [e] ta) (hs : starEach [e] X.env = [(false, eval e X.env)] := by rfl) :
    PI X (.Tuple elts kk tpos) (.Call (.Name "enumerate" p) [e] [] pos) (iEnumS ta) := by
  refine ⟨fun pins s σ H R I h => ?_⟩
  refine Call_ (ld_blt I hg hm boot_enumerate (PyProof.Rows.callWith_type1 (thn (ha.run pos pins s σ H _ I h) fun us s1 ⟨vs, H1, I1, r1, q1⟩ => ?_) hs rfl))
  obtain ⟨x, ex, q⟩ := q1
  subst ex
  cases r1 with
  | cons r rr =>
    cases rr
    obtain ⟨t, rfl⟩ := r
    refine call_enumerate_str fun h' he hit hsz hk => wpAny_pyIter_enum he ?_
    have I2 : Inv X pins σ H1 { s1 with heap := h' } := I1.kept (t' := s1.toks) hk
    refine ⟨s1.heap.objs.size + 1, [s1.heap.objs.size + 1, s1.heap.objs.size], _, _, H1, rfl, I2, turn_enumS (s1.heap.objs.size + 1) s1.heap.objs.size x t, ⟨⟨.none, he⟩, hit, Nat.succ_ne_self _⟩, fun b hb => ?_, q⟩
    have e' : b = s1.heap.objs.size + 1 ∨ b = s1.heap.objs.size := by simpa using hb
    have hle : s1.heap.objs.size ≤ b := by
      rcases e' with z | z
      · rw [z]; exact Nat.le_add_right _ _
      · rw [z]; exact Nat.le_refl _
    exact I1.fpOk hle (I1.hok.fresh hle)

/-! ### text * int -/
def rRepS : R2 := fun x y H Q => ∃ (c : Nat) (k : Int), x = .str ⟨#[c]⟩ ∧ y = .int k ∧ 0 ≤ k ∧ k ≤ 1000 ∧ Q (.str ⟨(List.replicate k.toNat c).toArray⟩) H
theorem op_repS {X : Cx} : OpR X (binaryOp .Mult) rRepS := by
  intro pins s σ H x y v u Q I rx ry h
  obtain ⟨c, k, rfl, rfl, h0, h1, q⟩ := h
  obtain ⟨t, rfl⟩ := rx
  obtain ⟨t', rfl⟩ := ry
  have fin : ∀ (z : Str) (tk : Tok) (n : Nat), z = ⟨(List.replicate k.toNat c).toArray⟩ → EP X pins σ Q (.str z tk) { s with toks := n } := fun z tk n e => by
    subst e
    exact ⟨.str _, H, I.tok n, ⟨tk, rfl⟩, q⟩
  have h2 : (⟨#[c]⟩ : Str).length = 1 := rfl
  refine P.mul_str ?_ (fun h3 _ => ?_) (fun h3 _ => ?_) ?_
  · rw [decide_eq_false (by omega), decide_eq_false (by omega)]; rfl
  · rw [h2]
    have h5 : (1 : Int) ≤ (2 ^ 63 - 1) / k := by
      rw [Int.le_ediv_iff_mul_le (by omega)]
      omega
    omega
  · rw [h2]
    unfold Builtin.Str.tooLong
    rw [sizeLine_eq]
    exact decide_eq_false (by omega)
  · by_cases h3 : k < 1
    · rw [if_pos h3]
      have e : k = 0 := by omega
      subst e
      exact ⟨by decide, fin _ _ _ rfl⟩
    · rw [if_neg h3]
      by_cases h4 : (k == 1 || (⟨#[c]⟩ : Str).length == 0) = true
      · rw [if_pos h4]
        have e : k = 1 := by
          rw [h2] at h4
          simpa using h4
        subst e
        exact fin _ t s.toks rfl
      · rw [if_neg h4]
        have el : ∀ n : Nat, ((List.replicate n (#[c] : Array Nat)).foldl (· ++ ·) #[]).toList = List.replicate n c := fun n => by
          have g : ∀ (n : Nat) (a : Array Nat), ((List.replicate n (#[c] : Array Nat)).foldl (· ++ ·) a).toList = a.toList ++ List.replicate n c := fun n => by
            induction n with
            | zero => intro a; simp
            | succ n ih =>
              intro a
              rw [List.replicate_succ, List.foldl_cons, ih, List.replicate_succ]
              simp
          rw [g]
          rfl
        have ea : (⟨(List.replicate k.toNat (#[c] : Array Nat)).foldl (· ++ ·) #[]⟩ : Str) = ⟨(List.replicate k.toNat c).toArray⟩ := by
          rw [← el]
        refine ⟨?_, fin _ _ _ ea⟩
        show (⟨(List.replicate k.toNat (#[c] : Array Nat)).foldl (· ++ ·) #[]⟩ : Str).length ≤ sizeLine
        rw [ea, sizeLine_eq]
        show (List.replicate k.toNat c).toArray.size ≤ _
        rw [List.size_toArray, List.length_replicate]
        omega

/-! ### text[::-1] -/
def tRevS (te : TE) : TE := fun σ H Q => te σ H fun x H1 => ∃ z : Str, x = .str z ∧ z.length ≤ sizeLine ∧ Q (.str ⟨z.cps.toList.reverse.toArray⟩) H1
theorem pe_revS {X : Cx} {e : Expr} {te : TE} {k : Nat} {p1 p2 p3 pos : Pos} (he : PE X e te) : PE X (.Subscript e (.Slice none none (some (.UnaryOp .USub (.Constant (.int 1) k p1) p2)) p3) pos) (tRevS te) := by
  refine ⟨fun pins s σ H Q I h => ?_⟩
  refine Subscript_ (thn (he.run pins s σ H _ I h) fun v s1 ⟨x, H1, I1, r1, q1⟩ => ?_)
  obtain ⟨z, ex, hz, q⟩ := q1
  subst ex
  obtain ⟨t, rfl⟩ := r1
  have hst : PO X (some (.UnaryOp .USub (.Constant (.int 1) k p1) p2)) (tPart (tUn (rU fun i => .int (-i)) (tC (.int 1)))) := po_some (pe_un un_neg pe_int)
  refine wpAny_Slice (thn (po_none.run pins s1 σ H1 (fun o H2 => o = none ∧ H2 = H1) I1 ⟨rfl, rfl⟩) fun vl s2 ⟨l, H2, I2, pl, el, e2⟩ => ?_)
  subst el e2
  refine thn (po_none.run pins s2 σ H2 (fun o H3 => o = none ∧ H3 = H2) I2 ⟨rfl, rfl⟩) fun vu s3 ⟨u, H3, I3, pu, eu, e3⟩ => ?_
  subst eu e3
  refine thn (hst.run pins s3 σ H3 (fun o H4 => o = some (-1) ∧ H4 = H3) I3 ⟨1, rfl, -1, rfl, rfl, rfl⟩) fun vs s4 ⟨o, H4, I4, ps, eo, e4⟩ => ?_
  subst eo e4
  have I5 : Inv X pins σ H4 { s4 with heap := s4.heap.push { cls := .type "slice", data := .fields #[vl, vu, vs] } } := I4.kept (t' := s4.toks) fun b ob q => Heap.get?_push_of_some _ q
  show wpAny (model X.prog X.w) X.A (subscriptTail e (.Slice none none (some (.UnaryOp .USub (.Constant (.int 1) k p1) p2)) p3) (.str z t) (.ref s4.heap.objs.size)) (EP X pins σ Q) X.xe { s4 with heap := s4.heap.push { cls := .type "slice", data := .fields #[vl, vu, vs] } }
  obtain ⟨st, rfl, hst⟩ := IsPart.raw ps
  obtain ⟨lo, rfl, hlo⟩ := IsPart.raw pl
  obtain ⟨hi, rfl, hhi⟩ := IsPart.raw pu
  refine tail_any (ops := [.str z t, .ref s4.heap.objs.size]) (typeIs_str _ _ _) (PySem.F.slot_str_getitem.lookup) ?_ (by with_unfolding_all rfl)
  refine wpAny_getItem_str_slice (l := lo) (u := hi) (st := st) ⟨_, Heap.get?_push_size _ rfl, rfl, rfl⟩ (by rw [hst]; rfl) ?_
  unfold sliceMade slicePicked
  rw [hst, hlo, hhi]
  have e1 : Builtin.Str.strSliceIndices none none ((some (-1 : Int)).getD 1) z.length = (List.range z.length).reverse := by
    unfold Builtin.Str.strSliceIndices
    show sliceRange ((z.length : Int) - 1) (-1) (-1) = _
    rw [PySem.W.krv_sliceRange, PySem.W.krv_range]
  rw [e1, if_neg (by simp)]
  have e2 : (List.range z.length).reverse.filterMap (z.cps[·]?) = z.cps.toList.reverse := by
    rw [List.filterMap_reverse, show z.length = z.cps.size from rfl, PySem.W.krv_all]
  rw [e2]
  refine ⟨?_, .str _, H4, I5.tok _, ⟨_, rfl⟩, q⟩
  show (z.cps.toList.reverse.toArray).size ≤ sizeLine
  rw [List.size_toArray, List.length_reverse, Array.length_toList]
  exact hz

/-! ### sorted of pairs (one letter, text), by letter and text -/
theorem swo_nats {α : Type} (f : α → List Nat) : SrtO.Swo fun x y => decide (f x < f y) := by
  refine ⟨fun x y h => ?_, fun x y z h1 h2 => ?_⟩
  · have a := of_decide_eq_true h
    exact decide_eq_false (List.lt_asymm a)
  · have a : f x ≤ f y := List.not_lt.mp (of_decide_eq_false h1)
    have b : f y ≤ f z := List.not_lt.mp (of_decide_eq_false h2)
    exact decide_eq_false (List.not_lt.mpr (List.le_trans a b))
/-- at v a tuple of a letter and a text, written as one list -/
def IsPairS (h : Heap) (v : Value) (l : List Nat) : Prop := ∃ a o t u n c r, v = .ref a ∧ h.get? a = some o ∧ o.cls = .type "tuple" ∧ o.data = .seq #[.str ⟨#[c]⟩ t, .str r u] n ∧ l = c :: r.cps.toList
theorem IsPairS.keeps {h h' : Heap} {v : Value} {l : List Nat} (p : IsPairS h v l) (k : ∀ b o, h.get? b = some o → o.cls = .type "tuple" → h'.get? b = some o) : IsPairS h' v l := by
  obtain ⟨a, o, t, u, n, c, r, e, ho, hc, hd⟩ := p
  exact ⟨a, o, t, u, n, c, r, e, k _ _ ho hc, hc, hd⟩
section
variable {prog : Program} {w : World} {A : Around} {E : Value → Shared → Prop} {s : Shared}
open SrtO
theorem one_lt {c d : Nat} {r r' : List Nat} : c :: r < d :: r' ↔ c < d ∨ c = d ∧ r < r' := List.cons_lt_cons_iff
theorem str_ext {a b : Str} (h : a.cps.toList = b.cps.toList) : a = b := by
  cases a; cases b; congr; exact Array.toList_inj.mp h
theorem pairS_cmp {vs : List Value} {k : Value → List Nat} (hp : ∀ v ∈ vs, IsPairS s.heap v (k v)) : Cmp prog w A s (tuples' true) (fun p => p.1 ∈ vs) (lt2 fun v u => decide (k v < k u)) := by
  intro p q hm hm'
  have h1 := hp _ hm
  have h2 := hp _ hm'
  show wpAny (model prog w) A (keyLt' (tuples' true) p.1 q.1) (fun r s' => s' = s ∧ r = decide (k p.1 < k q.1)) (fun _ _ => False) s
  generalize k p.1 = x at h1 ⊢
  generalize k q.1 = x' at h2 ⊢
  obtain ⟨a, o, t, u, n, c, r, e, ho, hc, hd, hx⟩ := h1
  obtain ⟨a', o', t', u', n', c', r', e', ho', hc', hd', hx'⟩ := h2
  subst hx hx'
  rw [e, e']
  refine PySem.W.kat_lt ho hd ho' hd' ?_
  show PySem.W.KatLex prog w A true (decide (2 < 2)) _ [(.str ⟨#[c]⟩ t, .str ⟨#[c']⟩ t'), (.str r u, .str r' u')] 0 s
  refine PySem.W.kat_cons (SeqAt.EqAt.str_str _ t _ t' prog w _ _ ?_)
  refine PySem.W.kat_go (fun e1 => ?_) (fun e1 => ?_)
  · have ex : c = c' := by simpa using e1
    refine PySem.W.kat_yes (PySem.W.kat_cons (SeqAt.EqAt.str_str _ u _ u' prog w _ _ ?_))
    refine PySem.W.kat_go (fun e2 => ?_) (fun e2 => ?_)
    · have ey : r = r' := by simpa using e2
      refine PySem.W.kat_yes (PySem.W.kat_nil ⟨rfl, ?_⟩)
      rw [ex, ey]
      exact (decide_eq_false (List.lt_irrefl _)).symm
    · refine PySem.W.kat_no (PySem.W.kat_one _ _ (PyProof.Rows.lt_str ?_))
      refine (show s = s ∧ decide (r.cps.toList < r'.cps.toList) = decide (c :: r.cps.toList < c' :: r'.cps.toList) from ⟨rfl, ?_⟩)
      rw [ex]
      exact decide_eq_decide.mpr (by rw [one_lt]; simp)
  · have ex : ¬ c = c' := by simpa using e1
    refine PySem.W.kat_no (oneLt_str (show s = s ∧ decide ([c] < [c']) = decide (c :: r.cps.toList < c' :: r'.cps.toList) from ⟨rfl, ?_⟩))
    exact decide_eq_decide.mpr (by rw [one_lt, one_lt]; simp [ex])
theorem firstsS {h : Heap} : ∀ {vs : List Value}, (∀ v ∈ vs, ∃ l, IsPairS h v l) → ∃ fs : List Value, PySem.W.KatTups h vs fs ∧ fs.length = vs.length ∧ ∀ f ∈ fs, ∃ x t, f = Value.str x t
  | [], _ => ⟨[], PySem.W.KatTups.nil, rfl, fun _ hm => by simp at hm⟩
  | v :: vs, hp => by
    obtain ⟨fs, h1, h2, h3⟩ := firstsS (vs := vs) fun v' hm => hp v' (List.mem_cons_of_mem _ hm)
    obtain ⟨l, a, o, t, u, n, c, r, e, ho, hc, hd, hl⟩ := hp v List.mem_cons_self
    subst e
    refine ⟨.str ⟨#[c]⟩ t :: fs, PySem.W.KatTups.cons ho hc hd rfl h1, by rw [List.length_cons, List.length_cons, h2], fun f hm => ?_⟩
    rcases List.mem_cons.mp hm with rfl | hm
    · exact ⟨_, t, rfl⟩
    · exact h3 f hm
theorem pairsS_sortable {a : Addr} {vs : List Value} {k : Value → List Nat} (h0 : 0 < vs.length) (hp : ∀ v ∈ vs, IsPairS s.heap v (k v)) (ha : ∀ o, s.heap.get? a = some o → o.cls ≠ .type "tuple") : SortableO prog w A s a vs fun v u => decide (k v < k u) := by
  intro h' keep
  have hp' : ∀ v ∈ vs, IsPairS h' v (k v) := fun v hm => (hp v hm).keeps fun b o e c => keep b o (fun z => by subst z; exact ha o e c) e
  obtain ⟨fs, h1, h2, h3⟩ := firstsS fun v hm => ⟨_, hp' v hm⟩
  refine ⟨tuples' true, fun Q E hq => ?_, pairS_cmp hp'⟩
  refine PySem.W.kat_kind (T := .type "str") h1 (by omega) (fun f hm => ?_) (by rfl) ?_
  · obtain ⟨x, t, rfl⟩ := h3 f hm
    exact PySem.W.Looks.now
  · have e : (Value.type "str" != Value.type "tuple") = true := by first | decide +kernel | rfl | decide
    rw [e]
    exact hq
theorem sorted_pairsS {l : Addr} {vs : List Value} {k : Value → List Nat} {Q : Value → Shared → Prop} (hl : s.heap.IsList l vs.toArray) (hz : vs.length ≤ sizeLine) (hp : ∀ v ∈ vs, IsPairS s.heap v (k v))
    (h : ∀ (h' : Heap) (d : Addr) (out : List Value), Srtd (fun v u => decide (k v < k u)) out → Stb (fun v u => decide (k v < k u)) out vs → (∀ b o, s.heap.get? b = some o → h'.get? b = some o) → s.heap.objs.size ≤ d → (∃ n, h'.get? d = some (seqObj "list" out.toArray n)) → Q (.ref d) { s with heap := h' }) :
    wpAny (model prog w) A (call (.builtin "sorted") [.ref l]) Q E s := by
  refine sorted_ord (swo_nats k) hl hz (fun h2 h₁ a ha kk => ?_) fun out hs hb => ?_
  · refine pairsS_sortable (s := { s with heap := h₁ }) (by omega) (fun v hm => (hp v hm).keeps fun b o e _ => (kk b o e).2) fun o e => ?_
    have e' : some o = some (seqObj "list" vs.toArray 0) := e.symm.trans ha
    cases e'
    intro c
    exact absurd (Value.type.inj c) (by decide)
  · exact h _ _ out hs hb (fun b o e => sortedAll_old e) (Nat.le_succ _) (sortedAll_at s.heap vs out.toArray)
end
/-- sorted(xs), xs a list of tuples (one letter, text): k says which; a new list -/
def rSortedS2 (K : PySem.W.Frag) : List V → Hp → VK → Prop := fun vs H Q => ∃ (a : Addr) (xs : List V) (k : V → List Nat), vs = [V.ref a] ∧ SqL K H a xs ∧ (∀ x ∈ xs, ∃ t c r, x = V.ref t ∧ H t = some (.tup [.str ⟨#[c]⟩, .str r]) ∧ k x = c :: r.cps.toList) ∧
  ∀ ys p, ys.Pairwise (fun x y => ¬ k y < k x) → ys.Perm xs → H p = none → Q (.ref p) (upd H p (.lst ys))
theorem cr_sortedS2 {X : Cx} : CallR X (.builtin "sorted") (rSortedS2 X.K) := by
  intro pins s σ H vs us Q I r h
  obtain ⟨a, xs, k, rfl, hs, hx, q⟩ := h
  obtain ⟨its, rv, hl, hz⟩ := I.list hs
  obtain ⟨u, rfl, ru⟩ := vals1 r
  obtain rfl : u = Value.ref a := ru
  obtain ⟨e1, e2⟩ := refs_back rv fun x m => by
    obtain ⟨t, _, _, e, _⟩ := hx x m
    exact ⟨t, e⟩
  refine sorted_pairsS (k := fun u => k (backV u)) hl.isList (by rw [← rv.length]; exact hz) (fun v hv => ?_) fun h' d out h1 h2 kp hd hn => ?_
  · obtain ⟨t, rfl⟩ := e2 v hv
    have hm : V.ref t ∈ xs := by rw [e1]; exact List.mem_map.mpr ⟨_, hv, rfl⟩
    obtain ⟨t', c, r', e, ht, hk⟩ := hx _ hm
    cases e
    obtain ⟨_, its2, r2, o, ho, hc, n, hd⟩ := I.hok _ _ ht
    obtain ⟨u1, u2, rfl, ri, rj⟩ := vals2 r2
    obtain ⟨t1, rfl⟩ := ri
    obtain ⟨t2, rfl⟩ := rj
    exact ⟨t, o, t1, t2, n, c, r', rfl, ho, hc, hd, hk⟩
  · have h3 : ∀ u ∈ out, ∃ a, u = Value.ref a := fun u hu => e2 u (h2.perm.mem_iff.mp hu)
    obtain ⟨n, hn⟩ := hn
    have hb : SrtO.Stb (fun x y => decide (k x < k y)) (out.map backV) xs := by
      rw [e1]
      exact SrtO.Stb.map (swo_nats k) backV h2
    have h1' : (out.map backV).Pairwise (fun x y => ¬ k y < k x) := by
      have h1'' : SrtO.Srtd (fun x y => decide (k x < k y)) (out.map backV) := SrtO.srtd_map h1
      exact h1''.imp fun {x y} h => of_decide_eq_false h
    refine ⟨.ref d, upd H d (.lst (out.map backV)), I.laid (t' := s.toks) kp hd ⟨?_, out, n, vals_back h3, hn⟩, rfl, q _ d h1' hb.perm (I.hok.fresh hd)⟩
    rw [hb.len]
    exact hz
end Lg
/-! the mathematics of books, rows and pieces: plain lists, no program -/
namespace Lg
abbrev Tx := List Nat

/-! ### turning -/
def tby (w : Nat → Tx) (t : Tx) : Tx := t.flatMap w
theorem tby_nil (w : Nat → Tx) : tby w [] = [] := rfl
theorem tby_cons (w : Nat → Tx) (c : Nat) (t : Tx) : tby w (c :: t) = w c ++ tby w t := by
  unfold tby
  rw [List.flatMap_cons]
theorem tby_app (w : Nat → Tx) (a b : Tx) : tby w (a ++ b) = tby w a ++ tby w b := by
  unfold tby
  rw [List.flatMap_append]
theorem tby_one (w : Nat → Tx) (c : Nat) : tby w [c] = w c := by
  rw [tby_cons, tby_nil, List.append_nil]
theorem tby_flat (w : Nat → Tx) : ∀ ts : List Tx, tby w ts.flatten = (ts.map (tby w)).flatten
  | [] => rfl
  | t :: ts => by rw [List.flatten_cons, tby_app, List.map_cons, List.flatten_cons, tby_flat w ts]
theorem tby_len {w : Nat → Tx} {k : Nat} : ∀ {t : Tx}, (∀ c ∈ t, (w c).length ≤ k) → (tby w t).length ≤ t.length * k
  | [], _ => Nat.zero_le _
  | c :: t, h => by
    rw [tby_cons, List.length_append, List.length_cons, Nat.succ_mul]
    have h1 := h c List.mem_cons_self
    have h2 := tby_len (t := t) fun d hd => h d (List.mem_cons_of_mem _ hd)
    omega
theorem tby_mem {w : Nat → Tx} {ls : List Nat} {t : Tx} (hw : ∀ c ∈ ls, ∀ d ∈ w c, d ∈ ls) (ht : ∀ c ∈ t, c ∈ ls) : ∀ d ∈ tby w t, d ∈ ls := by
  intro d hd
  unfold tby at hd
  obtain ⟨c, hc, hd⟩ := List.mem_flatMap.mp hd
  exact hw c (ht c hc) d hd
def rowN (w : Nat → Tx) : Nat → Tx → Tx
  | 0, t => t
  | n + 1, t => rowN w n (tby w t)
theorem rowN_succ (w : Nat → Tx) : ∀ (n : Nat) (t : Tx), rowN w (n + 1) t = tby w (rowN w n t)
  | 0, _ => rfl
  | n + 1, t => rowN_succ w n (tby w t)
theorem rowN_nil (w : Nat → Tx) : ∀ n : Nat, rowN w n [] = []
  | 0 => rfl
  | n + 1 => rowN_nil w n
theorem rowN_app (w : Nat → Tx) : ∀ (n : Nat) (a b : Tx), rowN w n (a ++ b) = rowN w n a ++ rowN w n b
  | 0, _, _ => rfl
  | n + 1, a, b => by
    show rowN w n (tby w (a ++ b)) = rowN w n (tby w a) ++ rowN w n (tby w b)
    rw [tby_app, rowN_app w n]
theorem rowN_cons (w : Nat → Tx) (n : Nat) (c : Nat) (t : Tx) : rowN w n (c :: t) = rowN w n [c] ++ rowN w n t := rowN_app w n [c] t
theorem rowN_one (w : Nat → Tx) (n : Nat) (c : Nat) : rowN w (n + 1) [c] = rowN w n (w c) := by
  show rowN w n (tby w [c]) = _
  rw [tby_one]
theorem rowN_mem {w : Nat → Tx} {ls : List Nat} (hw : ∀ c ∈ ls, ∀ d ∈ w c, d ∈ ls) : ∀ (n : Nat) {t : Tx}, (∀ c ∈ t, c ∈ ls) → ∀ d ∈ rowN w n t, d ∈ ls
  | 0, _, h => h
  | n + 1, _, h => rowN_mem hw n (tby_mem hw h)

/-! ### pieces -/
def Cat (P : List Tx) (t : Tx) : Prop := ∃ ps : List Tx, (∀ p ∈ ps, p ∈ P) ∧ ps.flatten = t
theorem Cat.one {P : List Tx} {p : Tx} (h : p ∈ P) : Cat P p := ⟨[p], fun q hq => by rw [List.mem_singleton.mp hq]; exact h, by rw [List.flatten_cons, List.flatten_nil, List.append_nil]⟩
theorem Cat.mono {P P' : List Tx} {t : Tx} (h : Cat P t) (s : ∀ p ∈ P, p ∈ P') : Cat P' t := by
  obtain ⟨ps, h1, h2⟩ := h
  exact ⟨ps, fun p hp => s p (h1 p hp), h2⟩
theorem Cat.nil {P : List Tx} : Cat P [] := ⟨[], fun _ h => absurd h (by simp), rfl⟩
theorem Cat.app {P : List Tx} {a b : Tx} (ha : Cat P a) (hb : Cat P b) : Cat P (a ++ b) := by
  obtain ⟨ps, h1, h2⟩ := ha
  obtain ⟨qs, h3, h4⟩ := hb
  refine ⟨ps ++ qs, fun p hp => ?_, by rw [List.flatten_append, h2, h4]⟩
  rcases List.mem_append.mp hp with h | h
  · exact h1 p h
  · exact h3 p h
theorem Cat.turn {w w' : Nat → Tx} {P : List Tx} (h : ∀ p ∈ P, tby w p = tby w' p ∧ Cat P (tby w p)) {t : Tx} (c : Cat P t) : tby w t = tby w' t ∧ Cat P (tby w t) := by
  obtain ⟨ps, h1, rfl⟩ := c
  induction ps with
  | nil => exact ⟨rfl, .nil⟩
  | cons p ps ih =>
    have i1 := ih fun q hq => h1 q (List.mem_cons_of_mem _ hq)
    have i2 := h p (h1 p List.mem_cons_self)
    rw [List.flatten_cons, tby_app, tby_app]
    exact ⟨by rw [i1.1, i2.1], i2.2.app i1.2⟩
theorem Cat.rows {w w' : Nat → Tx} {P : List Tx} (h : ∀ p ∈ P, tby w p = tby w' p ∧ Cat P (tby w p)) : ∀ (n : Nat) {t : Tx}, Cat P t → rowN w n t = rowN w' n t
  | 0, _, _ => rfl
  | n + 1, t, c => by
    obtain ⟨e, c2⟩ := c.turn h
    show rowN w n (tby w t) = rowN w' n (tby w' t)
    rw [← e]
    exact Cat.rows h n c2

/-! ### sums over texts -/
def wsum (f : Nat → Int) (t : Tx) : Int := (t.map f).sum
theorem wsum_nil (f : Nat → Int) : wsum f [] = 0 := rfl
theorem wsum_cons (f : Nat → Int) (c : Nat) (t : Tx) : wsum f (c :: t) = f c + wsum f t := by
  unfold wsum
  rw [List.map_cons, List.sum_cons]
theorem wsum_app (f : Nat → Int) : ∀ a b : Tx, wsum f (a ++ b) = wsum f a + wsum f b
  | [], b => by rw [List.nil_append, wsum_nil]; omega
  | c :: a, b => by rw [List.cons_append, wsum_cons, wsum_cons, wsum_app f a b]; omega
theorem wsum_nonneg {f : Nat → Int} (h : ∀ c, 0 ≤ f c) : ∀ t : Tx, 0 ≤ wsum f t
  | [] => Int.le_refl _
  | c :: t => by
    rw [wsum_cons]
    have := h c
    have := wsum_nonneg h t
    omega
theorem wsum_ones : ∀ t : Tx, wsum (fun _ => 1) t = (t.length : Int)
  | [] => rfl
  | c :: t => by rw [wsum_cons, wsum_ones t, List.length_cons]; omega
/-- what a letter is worth n ages on -/
def wo (w : Nat → Tx) (e : Nat → Int) (n : Nat) (c : Nat) : Int := wsum e (rowN w n [c])
theorem wsum_row (w : Nat → Tx) (e : Nat → Int) (n : Nat) : ∀ t : Tx, wsum e (rowN w n t) = wsum (wo w e n) t
  | [] => by rw [rowN_nil]; rfl
  | c :: t => by rw [rowN_cons, wsum_app, wsum_row w e n t, wsum_cons]; rfl
theorem wo_zero (w : Nat → Tx) (e : Nat → Int) (c : Nat) : wo w e 0 c = e c := by
  show wsum e [c] = _
  rw [wsum_cons, wsum_nil]; omega
theorem wo_succ (w : Nat → Tx) (e : Nat → Int) (n : Nat) (c : Nat) : wo w e (n + 1) c = wsum (wo w e n) (w c) := by
  unfold wo
  rw [rowN_one, wsum_row]
  rfl
def sz (w : Nat → Tx) (n : Nat) (c : Nat) : Int := wo w (fun _ => 1) n c
theorem sz_eq (w : Nat → Tx) (n : Nat) (c : Nat) : sz w n c = ((rowN w n [c]).length : Int) := wsum_ones _
theorem sz_nonneg (w : Nat → Tx) (n : Nat) (c : Nat) : 0 ≤ sz w n c := by
  rw [sz_eq]; omega
theorem wsum_sz (w : Nat → Tx) (n : Nat) (t : Tx) : wsum (sz w n) t = ((rowN w n t).length : Int) := by
  rw [← wsum_ones, wsum_row]; rfl
/-- how many of the letter x -/
def isx (x : Nat) (c : Nat) : Int := if c = x then 1 else 0
theorem wsum_isx (x : Nat) : ∀ t : Tx, wsum (isx x) t = (t.count x : Int)
  | [] => rfl
  | c :: t => by
    rw [wsum_cons, wsum_isx x t, List.count_cons]
    unfold isx
    by_cases h : c = x
    · subst h; simp; omega
    · simp [h]

/-! ### ways -/
/-- l: what stands ahead, by f; t: the text of n ages to go -/
def WayOk (w : Nat → Tx) : Nat → Tx → Int → List (Nat × Nat) → Prop
  | _, _, _, [] => False
  | 0, t, l, (c, i) :: r => r = [] ∧ t[i]? = some c ∧ 0 ≤ l - wsum (sz w 0) (t.take i) ∧ l - wsum (sz w 0) (t.take i) < sz w 0 c
  | n + 1, t, l, (c, i) :: r => t[i]? = some c ∧ 0 ≤ l - wsum (sz w (n + 1)) (t.take i) ∧ l - wsum (sz w (n + 1)) (t.take i) < sz w (n + 1) c ∧ WayOk w n (w c) (l - wsum (sz w (n + 1)) (t.take i)) r
/-- what is worth ahead of a way -/
def aheadM (w : Nat → Tx) (e : Nat → Int) : Nat → Tx → List (Nat × Nat) → Int
  | _, _, [] => 0
  | 0, t, (_, i) :: _ => wsum (wo w e 0) (t.take i)
  | n + 1, t, (c, i) :: r => wsum (wo w e (n + 1)) (t.take i) + aheadM w e n (w c) r
theorem split_at {t : Tx} {i c : Nat} (h : t[i]? = some c) : t = t.take i ++ c :: t.drop (i + 1) := by
  obtain ⟨hi, hc⟩ := List.getElem?_eq_some_iff.mp h
  rw [← hc, List.getElem_cons_drop, List.take_append_drop]
theorem way_row {w : Nat → Tx} : ∀ {n : Nat} {t : Tx} {l : Int} {s : List (Nat × Nat)}, WayOk w n t l s →
    ∃ c i, s.getLast? = some (c, i) ∧ 0 ≤ l ∧ (rowN w n t)[l.toNat]? = some c ∧ s.length = n + 1 ∧ ∀ e : Nat → Int, aheadM w e n t s = wsum e ((rowN w n t).take l.toNat)
  | _, _, _, [], h => by cases ‹Nat› <;> exact h.elim
  | 0, t, l, (c, i) :: r, h => by
    obtain ⟨rfl, h1, h2, h3⟩ := h
    have hl : (t.take i).length = i := by
      rw [List.length_take]
      have := (List.getElem?_eq_some_iff.mp h1).1
      omega
    rw [wsum_sz] at h2 h3
    rw [sz_eq] at h3
    have h2' : (0 : Int) ≤ l - ((t.take i).length : Int) := h2
    have h3' : l - ((t.take i).length : Int) < (([c] : Tx).length : Int) := h3
    rw [hl] at h2' h3'
    have e : l = (i : Int) := by
      have : (([c] : Tx).length : Int) = 1 := rfl
      omega
    subst e
    refine ⟨c, i, rfl, by omega, ?_, rfl, fun e => ?_⟩
    · show t[i]? = some c
      exact h1
    · show wsum (wo w e 0) (t.take i) = wsum e (t.take i)
      rw [show wo w e 0 = e from funext fun c => wo_zero w e c]
  | n + 1, t, l, (c, i) :: r, h => by
    obtain ⟨h1, h2, h3, h4⟩ := h
    obtain ⟨c', i', g1, g2, g3, g4, g5⟩ := way_row h4
    have ht := split_at h1
    have er : rowN w (n + 1) t = rowN w (n + 1) (t.take i) ++ (rowN w n (w c) ++ rowN w (n + 1) (t.drop (i + 1))) := by
      conv => lhs; rw [ht]
      rw [rowN_app, rowN_cons, rowN_one]
    rw [wsum_sz] at h2 h3 h4 g2 g3 g5
    generalize hA : rowN w (n + 1) (t.take i) = A at *
    have el : l.toNat = A.length + (l - (A.length : Int)).toNat := by omega
    have hlt : (l - (A.length : Int)).toNat < (rowN w n (w c)).length := (List.getElem?_eq_some_iff.mp g3).1
    refine ⟨c', i', ?_, by omega, ?_, by rw [List.length_cons, g4], fun e => ?_⟩
    · cases r with
      | nil => simp at g1
      | cons x r => rw [List.getLast?_cons_cons]; exact g1
    · rw [er, el, List.getElem?_append_right (by omega), Nat.add_sub_cancel_left, List.getElem?_append_left hlt]
      exact g3
    · show wsum (wo w e (n + 1)) (t.take i) + aheadM w e n (w c) r = _
      rw [g5 e, ← wsum_row, hA, er, el, List.take_append, List.take_of_length_le (by omega : A.length ≤ A.length + _), Nat.add_sub_cancel_left, wsum_app, List.take_append_of_le_length (by omega)]

/-! ### counts -/
theorem count_tby {w : Nat → Tx} {ls : List Nat} (nd : ls.Nodup) (c : Nat) : ∀ {t : Tx}, (∀ d ∈ t, d ∈ ls) → ((tby w t).count c : Int) = (ls.map fun d => (t.count d : Int) * ((w d).count c : Int)).sum
  | [], _ => by
    rw [tby_nil]
    have : (ls.map fun d => (([] : Tx).count d : Int) * ((w d).count c : Int)) = ls.map fun _ => (0 : Int) := List.map_congr_left fun d _ => by simp
    rw [this]
    have z : ∀ l : List Nat, (l.map fun _ => (0 : Int)).sum = 0 := fun l => by
      induction l with
      | nil => rfl
      | cons x l ih => rw [List.map_cons, List.sum_cons, ih]; rfl
    rw [z]
    simp
  | x :: t, h => by
    have ih := count_tby (w := w) nd c (t := t) fun d hd => h d (List.mem_cons_of_mem _ hd)
    rw [tby_cons, List.count_append]
    have g : ∀ l : List Nat, l.Nodup → (l.map fun d => ((x :: t).count d : Int) * ((w d).count c : Int)).sum = (l.map fun d => (t.count d : Int) * ((w d).count c : Int)).sum + if x ∈ l then ((w x).count c : Int) else 0 := fun l hl => by
      induction l with
      | nil => simp
      | cons d l ih2 =>
        obtain ⟨k1, k2⟩ := List.nodup_cons.mp hl
        rw [List.map_cons, List.sum_cons, List.map_cons, List.sum_cons, ih2 k2, List.count_cons]
        by_cases e : x = d
        · subst e
          rw [if_pos (by simp), if_neg k1, if_pos List.mem_cons_self]
          have : (((t.count x + 1 : Nat) : Int)) * ((w x).count c : Int) = (t.count x : Int) * ((w x).count c : Int) + ((w x).count c : Int) := by
            rw [Int.natCast_add, Int.add_mul]; simp
          omega
        · have e1 : (x == d) = false := by simp [e]
          rw [e1]
          have e2 : (x ∈ d :: l) ↔ x ∈ l := by simp [e]
          by_cases m : x ∈ l
          · rw [if_pos m, if_pos (e2.mpr m)]
            simp; omega
          · rw [if_neg m, if_neg (fun z => m (e2.mp z))]
            simp
    rw [g ls nd, if_pos (h x List.mem_cons_self), ← ih]
    omega
/-- the counts, as far as the first i letters have been gone through -/
def accM (ls : List Nat) (w : Nat → Tx) (t : Tx) (i : Nat) : List Int := ls.map fun c => ((ls.take i).map fun d => (t.count d : Int) * ((w d).count c : Int)).sum
def cntM (ls : List Nat) (t : Tx) : List Int := ls.map fun c => (t.count c : Int)
theorem accM_end {ls : List Nat} {w : Nat → Tx} {t : Tx} (nd : ls.Nodup) (h : ∀ d ∈ t, d ∈ ls) : accM ls w t ls.length = cntM ls (tby w t) := by
  unfold accM cntM
  rw [List.take_length]
  exact List.map_congr_left fun c _ => (count_tby nd c h).symm
theorem accM_zero (ls : List Nat) (w : Nat → Tx) (t : Tx) : accM ls w t 0 = ls.map fun _ => 0 := rfl
theorem sum_snoc (l : List Int) (x : Int) : (l ++ [x]).sum = l.sum + x := by
  rw [List.sum_append]; simp
theorem accM_get {ls : List Nat} {w : Nat → Tx} {t : Tx} {i j d c : Nat} (hi : ls[i]? = some d) (hj : ls[j]? = some c) :
    ∃ a, (accM ls w t i)[j]? = some a ∧ (accM ls w t (i + 1))[j]? = some (a + (t.count d : Int) * ((w d).count c : Int)) := by
  unfold accM
  rw [List.getElem?_map, List.getElem?_map, hj]
  refine ⟨_, rfl, ?_⟩
  rw [List.take_add_one, hi]
  show some (((ls.take i ++ [d]).map fun d => (t.count d : Int) * ((w d).count c : Int)).sum) = some _
  rw [List.map_append, List.map_singleton, sum_snoc]
theorem accM_skip {ls : List Nat} {w : Nat → Tx} {t : Tx} {i d : Nat} (hi : ls[i]? = some d) (h0 : t.count d = 0) : accM ls w t (i + 1) = accM ls w t i := by
  unfold accM
  refine List.map_congr_left fun c _ => ?_
  rw [List.take_add_one, hi, show (some d).toList = [d] from rfl, List.map_append, List.map_singleton, sum_snoc, h0]
  simp
theorem cnt_sum {ls : List Nat} (nd : ls.Nodup) : ∀ {t : Tx}, (∀ d ∈ t, d ∈ ls) → (cntM ls t).sum = (t.length : Int)
  | [], _ => by
    unfold cntM
    have z : ∀ l : List Nat, (l.map fun c => ((([] : Tx).count c : Nat) : Int)).sum = 0 := fun l => by
      induction l with
      | nil => rfl
      | cons x l ih => rw [List.map_cons, List.sum_cons, ih]; simp
    rw [z]; rfl
  | x :: t, h => by
    have ih := cnt_sum nd (t := t) fun d hd => h d (List.mem_cons_of_mem _ hd)
    unfold cntM at ih ⊢
    have g : ∀ l : List Nat, l.Nodup → (l.map fun c => ((x :: t).count c : Int)).sum = (l.map fun c => (t.count c : Int)).sum + if x ∈ l then 1 else 0 := fun l hl => by
      induction l with
      | nil => simp
      | cons d l ih2 =>
        obtain ⟨k1, k2⟩ := List.nodup_cons.mp hl
        rw [List.map_cons, List.sum_cons, List.map_cons, List.sum_cons, ih2 k2, List.count_cons]
        by_cases e : x = d
        · subst e
          rw [if_pos (by simp), if_neg k1, if_pos List.mem_cons_self]
          omega
        · have e1 : (x == d) = false := by simp [e]
          rw [e1]
          have e2 : (x ∈ d :: l) ↔ x ∈ l := by simp [e]
          by_cases m : x ∈ l
          · rw [if_pos m, if_pos (e2.mpr m)]
            simp; omega
          · rw [if_neg m, if_neg (fun z => m (e2.mp z))]
            simp
    rw [g ls nd, if_pos (h x List.mem_cons_self), ih, List.length_cons]
    omega

/-! ### even places -/
def Even (w w' : Nat → Tx) (t : Tx) (p : Nat) : Prop := p ≤ t.length ∧ tby w (t.take p) = tby w' (t.take p)
def sub (t : Tx) (p q : Nat) : Tx := (t.drop p).take (q - p)
theorem sub_take {t : Tx} {p q : Nat} (h : p ≤ q) : t.take q = t.take p ++ sub t p q := by
  unfold sub
  have e : q = p + (q - p) := by omega
  conv => lhs; rw [e, List.take_add]
theorem sub_len {t : Tx} {p q : Nat} (h : p ≤ q) (hq : q ≤ t.length) : (sub t p q).length = q - p := by
  unfold sub
  rw [List.length_take, List.length_drop]
  omega
theorem sub_mem {t : Tx} {p q : Nat} : ∀ c ∈ sub t p q, c ∈ t := fun c h => List.mem_of_mem_drop (List.mem_of_mem_take h)
theorem even_sub {w w' : Nat → Tx} {t : Tx} {p q : Nat} (hp : Even w w' t p) (hq : Even w w' t q) (h : p ≤ q) : tby w (sub t p q) = tby w' (sub t p q) := by
  have e := hq.2
  rw [sub_take h, tby_app, tby_app, hp.2] at e
  exact List.append_cancel_left e
theorem take_snoc {t : Tx} {i c : Nat} (h : t[i]? = some c) : t.take (i + 1) = t.take i ++ [c] := by
  rw [List.take_add_one, h]
  rfl
theorem even_mem {w w' : Nat → Tx} {t : Tx} {p : Nat} (h : Even w w' t p) : p ≤ t.length := h.1
end Lg
/-! the text by places, its scopes, what the top has left; texts and heaps -/
namespace Lg
open PySem PySem.Spec PyProof.Rows L2
def topS (i : Nat) : Stmt := PySem.Challenge.pw_linegrow_k65_whole_rows_alike_at_great_p.main.body.getD i (.Pass ⟨0, 0, 0, 0⟩)
abbrev s_is_whole : Stmt := topS 10
theorem sc_is_whole : FnScope ["thing"] ["thing"] (defScope s_is_whole) := ⟨rfl, rfl, rfl, by decide +kernel, rfl, by decide +kernel, by decide +kernel⟩
abbrev s_is_letter : Stmt := topS 11
theorem sc_is_letter : FnScope ["thing"] ["thing"] (defScope s_is_letter) := ⟨rfl, rfl, rfl, by decide +kernel, rfl, by decide +kernel, by decide +kernel⟩
abbrev s_letters : Stmt := topS 12
theorem sc_letters : FnScope ["book", "rule"] ["book"] (defScope s_letters) := ⟨rfl, rfl, rfl, by decide +kernel, rfl, by decide +kernel, by decide +kernel⟩
abbrev s_words_of : Stmt := topS 13
theorem sc_words_of : FnScope ["book", "found", "letter", "text"] ["book"] (defScope s_words_of) := ⟨rfl, rfl, rfl, by decide +kernel, rfl, by decide +kernel, by decide +kernel⟩
abbrev s_need_letter : Stmt := topS 14
theorem sc_need_letter : FnScope ["book", "letter"] ["book", "letter"] (defScope s_need_letter) := ⟨rfl, rfl, rfl, by decide +kernel, rfl, by decide +kernel, by decide +kernel⟩
abbrev s_need_age : Stmt := topS 18
theorem sc_need_age : FnScope ["age"] ["age"] (defScope s_need_age) := ⟨rfl, rfl, rfl, by decide +kernel, rfl, by decide +kernel, by decide +kernel⟩
abbrev s_turned_by : Stmt := topS 19
theorem sc_turned_by : FnScope ["words", "text", "sign"] ["words", "text"] (defScope s_turned_by) := ⟨rfl, rfl, rfl, by decide +kernel, rfl, by decide +kernel, by decide +kernel⟩
abbrev s_rows : Stmt := topS 20
theorem sc_rows : FnScope ["book", "age", "words", "found", "step", "behind"] ["book", "age"] (defScope s_rows) := ⟨rfl, rfl, rfl, by decide +kernel, rfl, by decide +kernel, by decide +kernel⟩
abbrev s_row : Stmt := topS 21
theorem sc_row : FnScope ["book", "age"] ["book", "age"] (defScope s_row) := ⟨rfl, rfl, rfl, by decide +kernel, rfl, by decide +kernel, by decide +kernel⟩
abbrev s_early_part : Stmt := topS 28
theorem sc_early_part : FnScope ["one", "other", "words", "others", "mine", "theirs", "age"] ["one", "other"] (defScope s_early_part) := ⟨rfl, rfl, rfl, by decide +kernel, rfl, by decide +kernel, by decide +kernel⟩
abbrev s_even_places : Stmt := topS 29
theorem sc_even_places : FnScope ["words", "others", "text", "found", "mine", "theirs", "at", "sign"] ["words", "others", "text"] (defScope s_even_places) := ⟨rfl, rfl, rfl, by decide +kernel, rfl, by decide +kernel, by decide +kernel⟩
abbrev s_onward_places : Stmt := topS 30
theorem sc_onward_places : FnScope ["text", "places", "barred", "found", "k", "place"] ["text", "places", "barred"] (defScope s_onward_places) := ⟨rfl, rfl, rfl, by decide +kernel, rfl, by decide +kernel, by decide +kernel⟩
abbrev s_cut : Stmt := topS 31
theorem sc_cut : FnScope ["words", "others", "text", "barred", "places", "onward", "found", "at"] ["words", "others", "text", "barred"] (defScope s_cut) := ⟨rfl, rfl, rfl, by decide +kernel, rfl, by decide +kernel, by decide +kernel⟩
abbrev s_added : Stmt := topS 32
theorem sc_added : FnScope ["pieces", "others", "found", "piece"] ["pieces", "others"] (defScope s_added) := ⟨rfl, rfl, rfl, by decide +kernel, rfl, by decide +kernel, by decide +kernel⟩
abbrev s_gone_through : Stmt := topS 33
theorem sc_gone_through : FnScope ["words", "others", "first", "barred", "pieces", "at", "behind"] ["words", "others", "first", "barred"] (defScope s_gone_through) := ⟨rfl, rfl, rfl, by decide +kernel, rfl, by decide +kernel, by decide +kernel⟩
abbrev s_rows_alike : Stmt := topS 34
theorem sc_rows_alike : FnScope ["one", "other", "age", "words", "others", "barred", "pieces", "failed"] ["one", "other"] (defScope s_rows_alike) := ⟨rfl, rfl, rfl, by decide +kernel, rfl, by decide +kernel, by decide +kernel⟩
abbrev s_worths_of : Stmt := topS 36
theorem sc_worths_of : FnScope ["words", "ends", "found", "told", "behind", "letter", "sign"] ["words", "ends"] (defScope s_worths_of) := ⟨rfl, rfl, rfl, by decide +kernel, rfl, by decide +kernel, by decide +kernel⟩
abbrev s_sizes_of : Stmt := topS 37
theorem sc_sizes_of : FnScope ["words", "names", "letter"] ["words", "names"] (defScope s_sizes_of) := ⟨rfl, rfl, rfl, by decide +kernel, rfl, by decide +kernel, by decide +kernel⟩
abbrev s_total_of : Stmt := topS 38
theorem sc_total_of : FnScope ["worths", "first", "sign"] ["worths", "first"] (defScope s_total_of) := ⟨rfl, rfl, rfl, by decide +kernel, rfl, by decide +kernel, by decide +kernel⟩
abbrev s_way_down : Stmt := topS 39
theorem sc_way_down : FnScope ["words", "worths", "first", "left", "found", "text", "age", "index"] ["words", "worths", "first", "left"] (defScope s_way_down) := ⟨rfl, rfl, rfl, by decide +kernel, rfl, by decide +kernel, by decide +kernel⟩
abbrev s_worth_ahead : Stmt := topS 40
theorem sc_worth_ahead : FnScope ["words", "worths", "first", "way", "total", "text", "age", "letter", "index", "sign"] ["words", "worths", "first", "way"] (defScope s_worth_ahead) := ⟨rfl, rfl, rfl, by decide +kernel, rfl, by decide +kernel, by decide +kernel⟩
abbrev s_cut_out : Stmt := topS 41
theorem sc_cut_out : FnScope ["words", "sizes", "first", "start", "many", "found", "pile", "age", "text", "size"] ["words", "sizes", "first", "start", "many"] (defScope s_cut_out) := ⟨rfl, rfl, rfl, by decide +kernel, rfl, by decide +kernel, by decide +kernel⟩
abbrev s_words_at : Stmt := topS 44
theorem sc_words_at : FnScope ["book", "age"] ["book", "age"] (defScope s_words_at) := ⟨rfl, rfl, rfl, by decide +kernel, rfl, by decide +kernel, by decide +kernel⟩
abbrev s_need_place : Stmt := topS 45
theorem sc_need_place : FnScope ["place", "many"] ["place", "many"] (defScope s_need_place) := ⟨rfl, rfl, rfl, by decide +kernel, rfl, by decide +kernel, by decide +kernel⟩
abbrev s_need_cut : Stmt := topS 46
theorem sc_need_cut : FnScope ["start", "many", "size"] ["start", "many", "size"] (defScope s_need_cut) := ⟨rfl, rfl, rfl, by decide +kernel, rfl, by decide +kernel, by decide +kernel⟩
abbrev s_way : Stmt := topS 47
theorem sc_way : FnScope ["book", "age", "place", "words", "sizes"] ["book", "age", "place"] (defScope s_way) := ⟨rfl, rfl, rfl, by decide +kernel, rfl, by decide +kernel, by decide +kernel⟩
abbrev s_letter_at : Stmt := topS 48
theorem sc_letter_at : FnScope ["book", "age", "place"] ["book", "age", "place"] (defScope s_letter_at) := ⟨rfl, rfl, rfl, by decide +kernel, rfl, by decide +kernel, by decide +kernel⟩
abbrev s_stretch : Stmt := topS 49
theorem sc_stretch : FnScope ["book", "age", "start", "many", "words", "sizes"] ["book", "age", "start", "many"] (defScope s_stretch) := ⟨rfl, rfl, rfl, by decide +kernel, rfl, by decide +kernel, by decide +kernel⟩
abbrev s_worths_by : Stmt := topS 50
theorem sc_worths_by : FnScope ["book", "words", "letter", "name"] ["book", "words", "letter"] (defScope s_worths_by) := ⟨rfl, rfl, rfl, by decide +kernel, rfl, by decide +kernel, by decide +kernel⟩
abbrev s_ahead : Stmt := topS 51
theorem sc_ahead : FnScope ["book", "age", "place", "letter", "words", "sizes", "size", "worths"] ["book", "age", "place", "letter"] (defScope s_ahead) := ⟨rfl, rfl, rfl, by decide +kernel, rfl, by decide +kernel, by decide +kernel⟩
abbrev s_tally : Stmt := topS 53
theorem sc_tally : FnScope ["signs", "text", "sign"] ["signs", "text"] (defScope s_tally) := ⟨rfl, rfl, rfl, by decide +kernel, rfl, by decide +kernel, by decide +kernel⟩
abbrev s_table : Stmt := topS 54
theorem sc_table : FnScope ["book", "signs", "rule"] ["book"] (defScope s_table) := ⟨rfl, rfl, rfl, by decide +kernel, rfl, by decide +kernel, by decide +kernel⟩
abbrev s_passed : Stmt := topS 55
theorem sc_passed : FnScope ["rates", "amounts", "found", "at", "amount", "place", "rate", "one"] ["rates", "amounts"] (defScope s_passed) := ⟨rfl, rfl, rfl, by decide +kernel, rfl, by decide +kernel, by decide +kernel⟩
abbrev s_counts_from : Stmt := topS 56
theorem sc_counts_from : FnScope ["rates", "amounts", "age", "step"] ["rates", "amounts", "age"] (defScope s_counts_from) := ⟨rfl, rfl, rfl, by decide +kernel, rfl, by decide +kernel, by decide +kernel⟩
abbrev s_counts : Stmt := topS 57
theorem sc_counts : FnScope ["book", "age"] ["book", "age"] (defScope s_counts) := ⟨rfl, rfl, rfl, by decide +kernel, rfl, by decide +kernel, by decide +kernel⟩
abbrev s_length : Stmt := topS 58
theorem sc_length : FnScope ["book", "age"] ["book", "age"] (defScope s_length) := ⟨rfl, rfl, rfl, by decide +kernel, rfl, by decide +kernel, by decide +kernel⟩
abbrev s_law_whole : Stmt := topS 60
theorem sc_law_whole : FnScope ["_law_found"] ["_law_found"] (defScope s_law_whole) := ⟨rfl, rfl, rfl, by decide +kernel, rfl, by decide +kernel, by decide +kernel⟩
abbrev s_law_pen : Stmt := topS 61
theorem sc_law_pen : FnScope ["_law_script", "_law_k", "_law_fold", "_law_cell"] ["_law_script", "_law_k"] (defScope s_law_pen) := ⟨rfl, rfl, rfl, by decide +kernel, rfl, by decide +kernel, by decide +kernel⟩
abbrev s_law_take : Stmt := topS 62
theorem sc_law_take : FnScope ["_law_pen_here", "_law_size", "_law_found", "_law_number"] ["_law_pen_here", "_law_size"] (defScope s_law_take) := ⟨rfl, rfl, rfl, by decide +kernel, rfl, by decide +kernel, by decide +kernel⟩
abbrev s_law_signs : Stmt := topS 63
theorem sc_law_signs : FnScope ["_law_pen_here", "_law_many", "_law_rest", "_law_k"] ["_law_pen_here", "_law_many"] (defScope s_law_signs) := ⟨rfl, rfl, rfl, by decide +kernel, rfl, by decide +kernel, by decide +kernel⟩
abbrev s_law_text : Stmt := topS 64
theorem sc_law_text : FnScope ["_law_pen_here", "_law_signs_here", "_law_many", "_law_k"] ["_law_pen_here", "_law_signs_here", "_law_many"] (defScope s_law_text) := ⟨rfl, rfl, rfl, by decide +kernel, rfl, by decide +kernel, by decide +kernel⟩
abbrev s_law_cutting : Stmt := topS 65
theorem sc_law_cutting : FnScope ["_law_pen_here", "_law_signs_here", "_law_many", "_law_places", "_law_edges", "_law_k"] ["_law_pen_here", "_law_signs_here", "_law_many"] (defScope s_law_cutting) := ⟨rfl, rfl, rfl, by decide +kernel, rfl, by decide +kernel, by decide +kernel⟩
abbrev s_law_pair : Stmt := topS 66
theorem sc_law_pair : FnScope ["_law_pen_here", "_law_sizes", "_law_groups", "_law_signs_here", "_law_size", "_law_many", "_law_one", "_law_other", "_law_group", "_law_behind", "_law_mine", "_law_theirs", "_law_k", "_law_first"] ["_law_pen_here", "_law_sizes"] (defScope s_law_pair) := ⟨rfl, rfl, rfl, by decide +kernel, rfl, by decide +kernel, by decide +kernel⟩
abbrev s_law_balanced : Stmt := topS 67
theorem sc_law_balanced : FnScope ["_law_pen_here", "_law_atoms", "_law_most", "_law_found", "_law_k", "_law_part"] ["_law_pen_here", "_law_atoms", "_law_most"] (defScope s_law_balanced) := ⟨rfl, rfl, rfl, by decide +kernel, rfl, by decide +kernel, by decide +kernel⟩
abbrev s_law_long_pair : Stmt := topS 68
theorem sc_law_long_pair : FnScope ["_law_pen_here", "_law_signs_here", "_law_p", "_law_q", "_law_x", "_law_more", "_law_atoms", "_law_few", "_law_many", "_law_one", "_law_other", "_law_sign", "_law_behind", "_law_half", "_law_first"] ["_law_pen_here"] (defScope s_law_long_pair) := ⟨rfl, rfl, rfl, by decide +kernel, rfl, by decide +kernel, by decide +kernel⟩
abbrev s_law_spoil : Stmt := topS 69
theorem sc_law_spoil : FnScope ["_law_book", "_law_spoil_here", "_law_at", "_law_sign", "_law_signs_here", "_law_fresh", "_law_texts", "_law_which", "_law_old", "_law_place", "_law_rules", "_law_rule", "_law_k"] ["_law_book", "_law_spoil_here", "_law_at", "_law_sign"] (defScope s_law_spoil) := ⟨rfl, rfl, rfl, by decide +kernel, rfl, by decide +kernel, by decide +kernel⟩
abbrev s_law_by_letters : Stmt := topS 70
theorem sc_law_by_letters : FnScope ["_law_book", "_law_sums", "_law_found", "_law_k"] ["_law_book", "_law_sums"] (defScope s_law_by_letters) := ⟨rfl, rfl, rfl, by decide +kernel, rfl, by decide +kernel, by decide +kernel⟩
abbrev s_law_same : Stmt := topS 71
theorem sc_law_same : FnScope ["_law_one", "_law_other", "_law_at_age", "_law_great", "_law_many", "_law_place", "_law_sign", "_law_size", "_law_text_here"] ["_law_one", "_law_other", "_law_at_age", "_law_great"] (defScope s_law_same) := ⟨rfl, rfl, rfl, by decide +kernel, rfl, by decide +kernel, by decide +kernel⟩
abbrev s_law_parted : Stmt := topS 72
theorem sc_law_parted : FnScope ["_law_one", "_law_other", "_law_n", "_law_k"] ["_law_one", "_law_other", "_law_n"] (defScope s_law_parted) := ⟨rfl, rfl, rfl, by decide +kernel, rfl, by decide +kernel, by decide +kernel⟩
abbrev s_law : Stmt := topS 73
theorem sc_law : FnScope ["_law_script", "_law_pen_here", "_law_spoil_here", "_law_at", "_law_sign", "_law_at_age", "_law_great", "_law_one", "_law_other", "_law_groups", "_law_found", "_law_piece", "_law_mine", "_law_theirs"] ["_law_script"] (defScope s_law) := ⟨rfl, rfl, rfl, by decide +kernel, rfl, by decide +kernel, by decide +kernel⟩

/-- a def of the module as it stands behind the top -/
structure DefAt (K : PySem.W.Frag) (mg : Str → Option Value) (x : Str) (st : Stmt) (ps : List Str) : Prop where
  ex : ∃ (f : Addr) (fd : FuncData), L2.Fun K x x st f fd ∧ mg x = some (.ref f) ∧ Binds K fd ps []
/-- what the top has left -/
structure Facts (K : PySem.W.Frag) (mg : Str → Option Value) : Prop where
  d_is_whole : DefAt K mg "is_whole" s_is_whole ["thing"]
  d_is_letter : DefAt K mg "is_letter" s_is_letter ["thing"]
  d_letters : DefAt K mg "letters" s_letters ["book"]
  d_words_of : DefAt K mg "words_of" s_words_of ["book"]
  d_need_letter : DefAt K mg "need_letter" s_need_letter ["book", "letter"]
  d_need_age : DefAt K mg "need_age" s_need_age ["age"]
  d_turned_by : DefAt K mg "turned_by" s_turned_by ["words", "text"]
  d_rows : DefAt K mg "rows" s_rows ["book", "age"]
  d_row : DefAt K mg "row" s_row ["book", "age"]
  d_early_part : DefAt K mg "early_part" s_early_part ["one", "other"]
  d_even_places : DefAt K mg "even_places" s_even_places ["words", "others", "text"]
  d_onward_places : DefAt K mg "onward_places" s_onward_places ["text", "places", "barred"]
  d_cut : DefAt K mg "cut" s_cut ["words", "others", "text", "barred"]
  d_added : DefAt K mg "added" s_added ["pieces", "others"]
  d_gone_through : DefAt K mg "gone_through" s_gone_through ["words", "others", "first", "barred"]
  d_rows_alike : DefAt K mg "rows_alike" s_rows_alike ["one", "other"]
  d_worths_of : DefAt K mg "worths_of" s_worths_of ["words", "ends"]
  d_sizes_of : DefAt K mg "sizes_of" s_sizes_of ["words", "names"]
  d_total_of : DefAt K mg "total_of" s_total_of ["worths", "first"]
  d_way_down : DefAt K mg "way_down" s_way_down ["words", "worths", "first", "left"]
  d_worth_ahead : DefAt K mg "worth_ahead" s_worth_ahead ["words", "worths", "first", "way"]
  d_cut_out : DefAt K mg "cut_out" s_cut_out ["words", "sizes", "first", "start", "many"]
  d_words_at : DefAt K mg "words_at" s_words_at ["book", "age"]
  d_need_place : DefAt K mg "need_place" s_need_place ["place", "many"]
  d_need_cut : DefAt K mg "need_cut" s_need_cut ["start", "many", "size"]
  d_way : DefAt K mg "way" s_way ["book", "age", "place"]
  d_letter_at : DefAt K mg "letter_at" s_letter_at ["book", "age", "place"]
  d_stretch : DefAt K mg "stretch" s_stretch ["book", "age", "start", "many"]
  d_worths_by : DefAt K mg "worths_by" s_worths_by ["book", "words", "letter"]
  d_ahead : DefAt K mg "ahead" s_ahead ["book", "age", "place", "letter"]
  d_tally : DefAt K mg "tally" s_tally ["signs", "text"]
  d_table : DefAt K mg "table" s_table ["book"]
  d_passed : DefAt K mg "passed" s_passed ["rates", "amounts"]
  d_counts_from : DefAt K mg "counts_from" s_counts_from ["rates", "amounts", "age"]
  d_counts : DefAt K mg "counts" s_counts ["book", "age"]
  d_length : DefAt K mg "length" s_length ["book", "age"]
  d_law_whole : DefAt K mg "_law_whole" s_law_whole ["_law_found"]
  d_law_pen : DefAt K mg "_law_pen" s_law_pen ["_law_script", "_law_k"]
  d_law_take : DefAt K mg "_law_take" s_law_take ["_law_pen_here", "_law_size"]
  d_law_signs : DefAt K mg "_law_signs" s_law_signs ["_law_pen_here", "_law_many"]
  d_law_text : DefAt K mg "_law_text" s_law_text ["_law_pen_here", "_law_signs_here", "_law_many"]
  d_law_cutting : DefAt K mg "_law_cutting" s_law_cutting ["_law_pen_here", "_law_signs_here", "_law_many"]
  d_law_pair : DefAt K mg "_law_pair" s_law_pair ["_law_pen_here", "_law_sizes"]
  d_law_balanced : DefAt K mg "_law_balanced" s_law_balanced ["_law_pen_here", "_law_atoms", "_law_most"]
  d_law_long_pair : DefAt K mg "_law_long_pair" s_law_long_pair ["_law_pen_here"]
  d_law_spoil : DefAt K mg "_law_spoil" s_law_spoil ["_law_book", "_law_spoil_here", "_law_at", "_law_sign"]
  d_law_by_letters : DefAt K mg "_law_by_letters" s_law_by_letters ["_law_book", "_law_sums"]
  d_law_same : DefAt K mg "_law_same" s_law_same ["_law_one", "_law_other", "_law_at_age", "_law_great"]
  d_law_parted : DefAt K mg "_law_parted" s_law_parted ["_law_one", "_law_other", "_law_n"]
  d_law : DefAt K mg "law" s_law ["_law_script"]
  b_len : mg "len" = none
  b_list : mg "list" = none
  b_tuple : mg "tuple" = none
  b_sum : mg "sum" = none
  b_min : mg "min" = none
  b_int : mg "int" = none
  b_dict : mg "dict" = none
  b_sorted : mg "sorted" = none
  b_isinstance : mg "isinstance" = none
  b_range : mg "range" = none
  b_enumerate : mg "enumerate" = none
  b_reversed : mg "reversed" = none
  b_str : mg "str" = none
  b_bool : mg "bool" = none
  g_SIGNS : ∃ u, mg "SIGNS" = some u ∧ RelV (.str "abcdefghijklmnopqrstuvwxyz") u
  g_LAST_AGE : ∃ u, mg "LAST_AGE" = some u ∧ RelV (.int 300) u
  g_MOST_ROW : ∃ u, mg "MOST_ROW" = some u ∧ RelV (.int 600) u
  g_MOST_PIECES : ∃ u, mg "MOST_PIECES" = some u ∧ RelV (.int 30) u
  g_LONGEST_PIECE : ∃ u, mg "LONGEST_PIECE" = some u ∧ RelV (.int 40) u
  g_MOST_BARRED : ∃ u, mg "MOST_BARRED" = some u ∧ RelV (.int 30) u
  g_EARLY_AGE : ∃ u, mg "EARLY_AGE" = some u ∧ RelV (.int 20) u
  g_EARLY_ROW : ∃ u, mg "EARLY_ROW" = some u ∧ RelV (.int 300) u
  g_MOST_CUT : ∃ u, mg "MOST_CUT" = some u ∧ RelV (.int 100) u

section
variable {P : Program} {w : World} {K : PySem.W.Frag} {mg : Str → Option Value} {base : Heap}
theorem cal {x : Str} {st : Stmt} {N ps : List Str} {k : Nat} {sp : Sp} (D : DefAt K mg x st ps) (S : FnScope N ps (defScope st)) (len : ∀ vs H Q E, sp vs H Q E → vs.length = ps.length)
    (hbody : ∀ (f : Addr) (cdv : Value) (A : Around) (outer : List Env) (s : Shared) (H : Hp) (vs : List V) (Q : VK) (E : XK), Room k (A.deeper (envOfC x (defScope st) s.heap.objs.size f cdv)) → sp vs H Q E →
      ∃ t, PSs (cxOf CX0 P w K mg base N x (defScope st) f cdv A outer s H E).nox (defBody st) t ∧ t { nx := fun _ H' => Q .non H', rt := Q } (start N vs) H) : C8.Cal P w K mg base (k + 1) x sp [] := by
  obtain ⟨f, fd, F, m, b⟩ := D.ex
  exact ⟨f, fd, ps, [], F.ok S len (hbody f), m, F.kp, b, .nil⟩
end
/-- a promise is kept at any higher level -/
theorem cal_mono {P : Program} {w : World} {K : PySem.W.Frag} {mg : Str → Option Value} {base : Heap} {x : Str} {k : Nat} {sp sp' : Sp} {dvs : List V} (c : C8.Cal P w K mg base k x sp dvs) : C8.Cal P w K mg base k x sp dvs := c

/-! ### texts -/
abbrev S (t : Tx) : Str := ⟨t.toArray⟩
abbrev tv (t : Tx) : V := .str (S t)
theorem S_list (t : Tx) : (S t).cps.toList = t := rfl
theorem S_len (t : Tx) : (S t).length = t.length := by
  show t.toArray.size = _
  rw [List.size_toArray]
theorem S_inj {a b : Tx} (h : S a = S b) : a = b := by
  have := congrArg (fun z : Str => z.cps.toList) h
  exact this
theorem tv_inj {a b : Tx} (h : tv a = tv b) : a = b := S_inj (V.str.inj h)
theorem S_app (a b : Tx) : S a ++ S b = S (a ++ b) := by
  show (⟨a.toArray ++ b.toArray⟩ : Str) = ⟨(a ++ b).toArray⟩
  rw [List.append_toArray]
theorem S_of (z : Str) : z = S z.cps.toList := by
  cases z
  rfl
theorem S_get (t : Tx) (i : Nat) : (S t).cps[i]? = t[i]? := by
  show t.toArray[i]? = _
  rw [List.getElem?_toArray]
theorem S_size (t : Tx) : (S t).cps.size = t.length := List.size_toArray ..
theorem joinL_nil : ∀ ts : List (List Nat), TL.joinL [] ts = ts.flatten
  | [] => rfl
  | [p] => by rw [List.flatten_cons, List.flatten_nil, List.append_nil]; rfl
  | p :: q :: r => by
    show p ++ ([] ++ TL.joinL [] (q :: r)) = _
    rw [joinL_nil (q :: r), List.nil_append] <;> rfl
theorem join_S (ts : List Tx) : Txt.join (S []) (ts.map S) = S ts.flatten := by
  rw [TL.join_eq]
  have h := TL.tl_join (S []) (ts.map S)
  rw [List.map_map] at h
  have e : ts.map (TL.tl ∘ S) = ts := by
    conv => rhs; rw [← List.map_id ts]
    exact List.map_congr_left fun t _ => rfl
  rw [e] at h
  have h2 : TL.tl (S []) = [] := rfl
  rw [h2, joinL_nil] at h
  have h3 : (Str.join (S []) (ts.map S)).cps.toList = ts.flatten := h
  rw [S_of (Str.join (S []) (ts.map S)), h3]

/-! ### heaps -/
theorem same_new {H : Hp} {p : Addr} {o : HO} (h : H p = none) : Same H (upd H p o) := fun b x e => by
  rw [upd_ne (ne_of_none e h)]
  exact e
/-- an object that H does not know may change -/
theorem same_mut {H H' : Hp} {p : Addr} {o : HO} (e : Same H H') (h : H p = none) : Same H (upd H' p o) := fun a u ha => by
  rw [upd_ne (ne_of_none ha h)]
  exact e a u ha
theorem same_rd {H H' : Hp} {a : Addr} {u : HO} (e : Same H H') (h : Rd H a u) : Rd H' a u := by
  rcases h with h | ⟨o, h⟩
  · exact .inl (e a _ h)
  · exact .inr ⟨o, e a _ h⟩
theorem same_tup {K : PySem.W.Frag} {H H' : Hp} {a : Addr} {xs : List V} (e : Same H H') (h : SqT K H a xs) : SqT K H' a xs := by
  rcases h with h | h
  · exact .inl (same_rd e h)
  · exact .inr h
theorem lst_of {K : PySem.W.Frag} {H : Hp} {a : Addr} {xs : List V} (h : H a = some (.lst xs)) : SqL K H a xs := .inl (.inl h)
theorem tup_of {K : PySem.W.Frag} {H : Hp} {a : Addr} {xs : List V} (h : H a = some (.tup xs)) : SqT K H a xs := .inl (.inl h)
theorem dget_rd {H : Hp} {a : Addr} {kvs : List (Key × V)} {k : Key} {r : Option V} (e : Rd H a (.dK kvs)) (h : valV kvs k = r) : DGet H a (kV k) r := .inl ⟨kvs, k, e, rfl, h.symm⟩
theorem small {n : Nat} (h : n ≤ 1000000) : n ≤ sizeLine := Nat.le_trans h (by decide)
theorem small' {n : Nat} (h : n ≤ 1000000) : n < sizeLine := Nat.lt_of_le_of_lt h (by decide)

/-! ### comprehensions whose element changes nothing that stands -/
section
variable {J : It} {n : Nat} {G : Hp → Prop} {Y : Nat → Hp → V → Hp → Prop}
theorem lc_gen2 (w : Walk J n G Y) {g : TG} {tt : TT} {te : TE} {vs : List Nat} {σ : L2.St} {H1 : Hp} {D : Addr} {Qd : Hp → Prop} (E : Nat → V → Hp → Prop) (hn : n ≤ 1000000) (hD : H1 D = none) (hG : ∀ H, Same H1 H → G H)
    (e1 : ∀ i v H H', Same H H' → E i v H → E i v H') (e2 : ∀ i v H xs ys, H D = some (.lst xs) → E i v H → E i v (upd H D (.lst ys)))
    (hs : ∀ i x H H' (Qc : VK) (R : Hp → Prop), i < n → Same H1 H → (∃ acc, H D = some (.lst acc)) → Y i H x H' → (∀ v H4, Same H H4 → E i v H4 → Qc v H4) → g x (wipe σ vs) H' fun σ2 H2 => wipe σ2 vs = wipe σ vs ∧ tt σ2 H2 fun b H3 =>
      if b = true then te σ2 H3 Qc else R H3) (hd : ∀ H acc, Same H1 H → H D = some (.lst acc) → acc.length = n → (∀ i v, acc[i]? = some v → E i v H) → Qd H) :
    ∃ W : Nat → Nat → Hp → Prop, (∃ m, W 0 m (upd H1 D (.lst []))) ∧ ∀ i m H, W i m H →
      (J.stop i H ∧ Qd H) ∨ (J.go i H ∧ ∃ Nx : Hp → Prop, (∀ H', Nx H' → ∃ m', m' < m ∧ W (i + 1) m' H') ∧ ∀ x H', J.yld i H x H' → g x (wipe σ vs) H' fun σ2 H2 => wipe σ2 vs = wipe σ vs ∧ tt σ2 H2 fun b H3 =>
        if b = true then te σ2 H3 fun y H4 => ∃ acc, H4 D = some (.lst acc) ∧ acc.length < sizeLine ∧ Nx (upd H4 D (.lst (acc ++ [y]))) else Nx H3) := by
  refine lc_it w (fun i H => Same H1 H ∧ ∃ acc, H D = some (.lst acc) ∧ acc.length = i ∧ ∀ j v, acc[j]? = some v → E j v H) ⟨same_new hD, [], upd_same, rfl, fun j v h => by simp at h⟩ (fun i H _ p => hG H p.1) (fun i x H H' hi p y => ?_) (fun H p => ?_)
  · obtain ⟨sm, acc, ha, hl, he⟩ := p
    refine hs i x H H' _ _ hi sm ⟨acc, ha⟩ y fun v H4 s4 ev => ⟨acc, s4 D _ ha, ?_, ?_, acc ++ [v], upd_same, ?_, fun j u h => ?_⟩
    · rw [hl]; exact small' (by omega)
    · exact same_mut (sm.trans s4) hD
    · rw [List.length_append, hl]; rfl
    · refine e2 j u H4 acc _ (s4 D _ ha) ?_
      by_cases hj : j < acc.length
      · rw [List.getElem?_append_left hj] at h
        exact e1 j u H H4 s4 (he j u h)
      · have ej : j = acc.length := by
          have := (List.getElem?_eq_some_iff.mp h).1
          rw [List.length_append] at this
          have h1 : ([v] : List V).length = 1 := rfl
          omega
        subst ej
        rw [List.getElem?_append_right (Nat.le_refl _), Nat.sub_self] at h
        have : v = u := Option.some.inj h
        rw [← this, hl]
        exact ev
  · obtain ⟨sm, acc, ha, hl, he⟩ := p
    exact hd H acc sm ha hl he
theorem lc_gen (w : Walk J n G Y) {g : TG} {tt : TT} {te : TE} {vs : List Nat} {σ : L2.St} {H1 : Hp} {D : Addr} {Qd : Hp → Prop} (E : Nat → V → Hp → Prop) (hn : n ≤ 1000000) (hD : H1 D = none) (hG : ∀ H, Same H1 H → G H)
    (e1 : ∀ i v H H', Same H H' → E i v H → E i v H') (e2 : ∀ i v H xs ys, H D = some (.lst xs) → E i v H → E i v (upd H D (.lst ys)))
    (hs : ∀ i x H H' (Qc : VK) (R : Hp → Prop), i < n → Same H1 H → Y i H x H' → (∀ v H4, Same H H4 → E i v H4 → Qc v H4) → g x (wipe σ vs) H' fun σ2 H2 => wipe σ2 vs = wipe σ vs ∧ tt σ2 H2 fun b H3 =>
      if b = true then te σ2 H3 Qc else R H3) (hd : ∀ H acc, Same H1 H → H D = some (.lst acc) → acc.length = n → (∀ i v, acc[i]? = some v → E i v H) → Qd H) :
    ∃ W : Nat → Nat → Hp → Prop, (∃ m, W 0 m (upd H1 D (.lst []))) ∧ ∀ i m H, W i m H →
      (J.stop i H ∧ Qd H) ∨ (J.go i H ∧ ∃ Nx : Hp → Prop, (∀ H', Nx H' → ∃ m', m' < m ∧ W (i + 1) m' H') ∧ ∀ x H', J.yld i H x H' → g x (wipe σ vs) H' fun σ2 H2 => wipe σ2 vs = wipe σ vs ∧ tt σ2 H2 fun b H3 =>
        if b = true then te σ2 H3 fun y H4 => ∃ acc, H4 D = some (.lst acc) ∧ acc.length < sizeLine ∧ Nx (upd H4 D (.lst (acc ++ [y]))) else Nx H3) :=
  lc_gen2 w E hn hD hG e1 e2 (fun i x H H' Qc R hi sm _ y q => hs i x H H' Qc R hi sm y q) hd
theorem lc_val (w : Walk J n G Y) {g : TG} {tt : TT} {te : TE} {vs : List Nat} {σ : L2.St} {H1 : Hp} {D : Addr} {Qd : Hp → Prop} (f : Nat → V) (hn : n ≤ 1000000) (hD : H1 D = none) (hG : ∀ H, Same H1 H → G H)
    (hs : ∀ i x H H' (Qc : VK) (R : Hp → Prop), i < n → Same H1 H → Y i H x H' → (∀ H4, Same H H4 → Qc (f i) H4) → g x (wipe σ vs) H' fun σ2 H2 => wipe σ2 vs = wipe σ vs ∧ tt σ2 H2 fun b H3 =>
      if b = true then te σ2 H3 Qc else R H3) (hd : ∀ H, Same H1 H → H D = some (.lst ((List.range n).map f)) → Qd H) :
    ∃ W : Nat → Nat → Hp → Prop, (∃ m, W 0 m (upd H1 D (.lst []))) ∧ ∀ i m H, W i m H →
      (J.stop i H ∧ Qd H) ∨ (J.go i H ∧ ∃ Nx : Hp → Prop, (∀ H', Nx H' → ∃ m', m' < m ∧ W (i + 1) m' H') ∧ ∀ x H', J.yld i H x H' → g x (wipe σ vs) H' fun σ2 H2 => wipe σ2 vs = wipe σ vs ∧ tt σ2 H2 fun b H3 =>
        if b = true then te σ2 H3 fun y H4 => ∃ acc, H4 D = some (.lst acc) ∧ acc.length < sizeLine ∧ Nx (upd H4 D (.lst (acc ++ [y]))) else Nx H3) := by
  refine lc_gen w (fun i v _ => v = f i) hn hD hG (fun _ _ _ _ _ h => h) (fun _ _ _ _ _ _ h => h) (fun i x H H' Qc R hi sm y q => hs i x H H' Qc R hi sm y fun H4 s4 => q _ H4 s4 rfl) (fun H acc sm ha hl he => hd H sm ?_)
  have e : acc = (List.range n).map f := by
    refine List.ext_getElem? fun i => ?_
    by_cases hi : i < n
    · have h1 : acc[i]? = some (acc[i]'(by omega)) := List.getElem?_eq_getElem (by omega)
      rw [h1, he i _ h1, List.getElem?_map, List.getElem?_range hi]
      rfl
    · rw [List.getElem?_eq_none (by omega), List.getElem?_eq_none (by simp; omega)]
  rw [ha, e]
end
theorem lcn_gen (w : Walk J n G Y) {te : TE} {vs : List Nat} {j : Nat} {σ : L2.St} {H1 : Hp} {D : Addr} {Qd : Hp → Prop} (E : Nat → V → Hp → Prop) (hn : n ≤ 1000000) (hD : H1 D = none) (hG : ∀ H, Same H1 H → G H) (hw : ∀ x, wipe ((wipe σ vs).set j (some x)) vs = wipe σ vs)
    (e1 : ∀ i v H H', Same H H' → E i v H → E i v H') (e2 : ∀ i v H xs ys, H D = some (.lst xs) → E i v H → E i v (upd H D (.lst ys)))
    (hs : ∀ i x H H' (Qc : VK), i < n → Same H1 H → Y i H x H' → (∀ v H4, Same H H4 → E i v H4 → Qc v H4) → te ((wipe σ vs).set j (some x)) H' Qc) (hd : ∀ H acc, Same H1 H → H D = some (.lst acc) → acc.length = n → (∀ i v, acc[i]? = some v → E i v H) → Qd H) :
    ∃ W : Nat → Nat → Hp → Prop, (∃ m, W 0 m (upd H1 D (.lst []))) ∧ ∀ i m H, W i m H →
      (J.stop i H ∧ Qd H) ∨ (J.go i H ∧ ∃ Nx : Hp → Prop, (∀ H', Nx H' → ∃ m', m' < m ∧ W (i + 1) m' H') ∧ ∀ x H', J.yld i H x H' → gName j x (wipe σ vs) H' fun σ2 H2 => wipe σ2 vs = wipe σ vs ∧ tYes σ2 H2 fun b H3 =>
        if b = true then te σ2 H3 fun y H4 => ∃ acc, H4 D = some (.lst acc) ∧ acc.length < sizeLine ∧ Nx (upd H4 D (.lst (acc ++ [y]))) else Nx H3) :=
  lc_gen w E hn hD hG e1 e2 (fun i x H H' Qc R hi sm y q => ⟨hw x, iteT (B := R H') (hs i x H H' Qc hi sm y q)⟩) hd
theorem lcn_gen2 (w : Walk J n G Y) {te : TE} {vs : List Nat} {j : Nat} {σ : L2.St} {H1 : Hp} {D : Addr} {Qd : Hp → Prop} (E : Nat → V → Hp → Prop) (hn : n ≤ 1000000) (hD : H1 D = none) (hG : ∀ H, Same H1 H → G H) (hw : ∀ x, wipe ((wipe σ vs).set j (some x)) vs = wipe σ vs)
    (e1 : ∀ i v H H', Same H H' → E i v H → E i v H') (e2 : ∀ i v H xs ys, H D = some (.lst xs) → E i v H → E i v (upd H D (.lst ys)))
    (hs : ∀ i x H H' (Qc : VK), i < n → Same H1 H → (∃ acc, H D = some (.lst acc)) → Y i H x H' → (∀ v H4, Same H H4 → E i v H4 → Qc v H4) → te ((wipe σ vs).set j (some x)) H' Qc) (hd : ∀ H acc, Same H1 H → H D = some (.lst acc) → acc.length = n → (∀ i v, acc[i]? = some v → E i v H) → Qd H) :
    ∃ W : Nat → Nat → Hp → Prop, (∃ m, W 0 m (upd H1 D (.lst []))) ∧ ∀ i m H, W i m H →
      (J.stop i H ∧ Qd H) ∨ (J.go i H ∧ ∃ Nx : Hp → Prop, (∀ H', Nx H' → ∃ m', m' < m ∧ W (i + 1) m' H') ∧ ∀ x H', J.yld i H x H' → gName j x (wipe σ vs) H' fun σ2 H2 => wipe σ2 vs = wipe σ vs ∧ tYes σ2 H2 fun b H3 =>
        if b = true then te σ2 H3 fun y H4 => ∃ acc, H4 D = some (.lst acc) ∧ acc.length < sizeLine ∧ Nx (upd H4 D (.lst (acc ++ [y]))) else Nx H3) :=
  lc_gen2 w E hn hD hG e1 e2 (fun i x H H' Qc R hi sm ac y q => ⟨hw x, iteT (B := R H') (hs i x H H' Qc hi sm ac y q)⟩) hd
theorem lcn_val (w : Walk J n G Y) {te : TE} {vs : List Nat} {j : Nat} {σ : L2.St} {H1 : Hp} {D : Addr} {Qd : Hp → Prop} (f : Nat → V) (hn : n ≤ 1000000) (hD : H1 D = none) (hG : ∀ H, Same H1 H → G H) (hw : ∀ x, wipe ((wipe σ vs).set j (some x)) vs = wipe σ vs)
    (hs : ∀ i x H H' (Qc : VK), i < n → Same H1 H → Y i H x H' → (∀ H4, Same H H4 → Qc (f i) H4) → te ((wipe σ vs).set j (some x)) H' Qc) (hd : ∀ H, Same H1 H → H D = some (.lst ((List.range n).map f)) → Qd H) :
    ∃ W : Nat → Nat → Hp → Prop, (∃ m, W 0 m (upd H1 D (.lst []))) ∧ ∀ i m H, W i m H →
      (J.stop i H ∧ Qd H) ∨ (J.go i H ∧ ∃ Nx : Hp → Prop, (∀ H', Nx H' → ∃ m', m' < m ∧ W (i + 1) m' H') ∧ ∀ x H', J.yld i H x H' → gName j x (wipe σ vs) H' fun σ2 H2 => wipe σ2 vs = wipe σ vs ∧ tYes σ2 H2 fun b H3 =>
        if b = true then te σ2 H3 fun y H4 => ∃ acc, H4 D = some (.lst acc) ∧ acc.length < sizeLine ∧ Nx (upd H4 D (.lst (acc ++ [y]))) else Nx H3) :=
  lc_val w f hn hD hG (fun i x H H' Qc R hi sm y q => ⟨hw x, iteT (B := R H') (hs i x H H' Qc hi sm y q)⟩) hd
theorem range_get {α : Type} (l : List α) (f : Nat → V) (g : α → V) (h : ∀ i x, l[i]? = some x → f i = g x) : (List.range l.length).map f = l.map g := by
  refine List.ext_getElem? fun i => ?_
  rw [List.getElem?_map, List.getElem?_map]
  by_cases hi : i < l.length
  · rw [List.getElem?_range hi, List.getElem?_eq_getElem hi]
    exact congrArg some (h i _ (List.getElem?_eq_getElem hi))
  · rw [List.getElem?_eq_none (by simp; omega), List.getElem?_eq_none (by omega)]
    rfl
end Lg
/-! books.py, rows.py walked -/
namespace Lg
open PySem PySem.Spec PyProof.Rows L2
/-! ### books as data -/
abbrev Rls := List (Nat × Tx)
def keysOf (rs : Rls) : List Nat := rs.map (·.1)
def wOf (rs : Rls) (c : Nat) : Tx := (rs.lookup c).getD []
structure RlsOk (rs : Rls) : Prop where
  nd : (keysOf rs).Nodup
  len : rs.length ≤ 8
  sign : ∀ c ∈ keysOf rs, 97 ≤ c ∧ c ≤ 122
  word : ∀ p ∈ rs, p.2.length ≤ 6 ∧ ∀ d ∈ p.2, d ∈ keysOf rs
theorem keys_get {rs : Rls} {i : Nat} {p : Nat × Tx} (h : rs[i]? = some p) : (keysOf rs)[i]? = some p.1 := by
  unfold keysOf
  rw [List.getElem?_map, h]
  rfl
theorem wOf_mem : ∀ {rs : Rls}, (keysOf rs).Nodup → ∀ {p : Nat × Tx}, p ∈ rs → wOf rs p.1 = p.2
  | [], _, _, h => absurd h (by simp)
  | q :: rs, nd, p, h => by
    have nd' : q.1 ∉ keysOf rs ∧ (keysOf rs).Nodup := List.nodup_cons.mp nd
    unfold wOf
    rw [List.lookup_cons]
    rcases List.mem_cons.mp h with e | h
    · subst e
      simp
    · have : (p.1 == q.1) = false := by
        refine beq_eq_false_iff_ne.mpr fun e => nd'.1 ?_
        rw [← e]
        exact List.mem_map.mpr ⟨p, h, rfl⟩
      rw [this]
      exact wOf_mem nd'.2 h
theorem RlsOk.rule {rs : Rls} (o : RlsOk rs) {c : Nat} (h : c ∈ keysOf rs) : (c, wOf rs c) ∈ rs := by
  obtain ⟨p, hp, e⟩ := List.mem_map.mp h
  have := wOf_mem o.nd hp
  rw [← e, this]
  exact hp
theorem RlsOk.wlen {rs : Rls} (o : RlsOk rs) {c : Nat} (h : c ∈ keysOf rs) : (wOf rs c).length ≤ 6 := (o.word _ (o.rule h)).1
theorem RlsOk.wmem {rs : Rls} (o : RlsOk rs) : ∀ c ∈ keysOf rs, ∀ d ∈ wOf rs c, d ∈ keysOf rs := fun c h => (o.word _ (o.rule h)).2
theorem RlsOk.klen {rs : Rls} (o : RlsOk rs) : (keysOf rs).length ≤ 8 := by
  unfold keysOf
  rw [List.length_map]
  exact o.len
theorem RlsOk.tlen {rs : Rls} (o : RlsOk rs) {t : Tx} (h : ∀ c ∈ t, c ∈ keysOf rs) : (tby (wOf rs) t).length ≤ t.length * 6 := tby_len fun c hc => o.wlen (h c hc)
/-- the words of a book, as a dict -/
def wordsKV (rs : Rls) : List (Key × V) := rs.map fun p => (Sum.inr (S [p.1]), tv p.2)
theorem wordsKV_get {rs : Rls} (o : RlsOk rs) {c : Nat} (h : c ∈ keysOf rs) : valV (wordsKV rs) (Sum.inr (S [c])) = some (tv (wOf rs c)) := by
  have g : ∀ l : Rls, (keysOf l).Nodup → ∀ p ∈ l, valV (wordsKV l) (Sum.inr (S [p.1])) = some (tv p.2) := fun l => by
    induction l with
    | nil => intro _ p hp; simp at hp
    | cons q l ih =>
      intro nd p hp
      have nd' : q.1 ∉ keysOf l ∧ (keysOf l).Nodup := List.nodup_cons.mp nd
      show valV ((Sum.inr (S [q.1]), tv q.2) :: wordsKV l) _ = _
      rcases List.mem_cons.mp hp with e | hp
      · subst e
        exact valV_pos rfl
      · rw [valV_neg]
        · exact ih nd'.2 p hp
        · intro e
          have e2 : S [q.1] = S [p.1] := Sum.inr.inj e
          have e3 := S_inj e2
          have e4 : q.1 = p.1 := by simpa using e3
          exact nd'.1 (by rw [e4]; exact List.mem_map.mpr ⟨p, hp, rfl⟩)
  exact g rs o.nd _ (o.rule h)
theorem wordsKV_new {rs : Rls} {c : Nat} (h : c ∉ keysOf rs) : valV (wordsKV rs) (Sum.inr (S [c])) = none := by
  induction rs with
  | nil => rfl
  | cons q l ih =>
    have h1 : c ≠ q.1 ∧ c ∉ keysOf l := by
      unfold keysOf at h ⊢
      simpa using h
    show valV ((Sum.inr (S [q.1]), tv q.2) :: wordsKV l) _ = _
    rw [valV_neg]
    · exact ih h1.2
    · intro e
      have e3 := S_inj (Sum.inr.inj e)
      exact h1.1 (by simpa using e3.symm)
/-- the rules of a book at r, the book at b -/
def RulesAt (K : PySem.W.Frag) (H : Hp) (r : Addr) (rs : Rls) : Prop :=
  ∃ ts : List Addr, SqT K H r (ts.map V.ref) ∧ ts.length = rs.length ∧ ∀ (i : Nat) (t : Addr) (p : Nat × Tx), ts[i]? = some t → rs[i]? = some p → SqT K H t [tv [p.1], tv p.2]
theorem RulesAt.same {K : PySem.W.Frag} {H H' : Hp} {r : Addr} {rs : Rls} (h : RulesAt K H r rs) (e : Same H H') : RulesAt K H' r rs := by
  obtain ⟨ts, h1, h2, h3⟩ := h
  exact ⟨ts, same_tup e h1, h2, fun i t p a b => same_tup e (h3 i t p a b)⟩
def BookAt (K : PySem.W.Frag) (H : Hp) (b : V) (first : Tx) (rs : Rls) : Prop :=
  ∃ a r : Addr, b = .ref a ∧ SqT K H a [tv first, .ref r] ∧ RulesAt K H r rs
theorem BookAt.same {K : PySem.W.Frag} {H H' : Hp} {b : V} {first : Tx} {rs : Rls} (h : BookAt K H b first rs) (e : Same H H') : BookAt K H' b first rs := by
  obtain ⟨a, r, h1, h2, h3⟩ := h
  exact ⟨a, r, h1, same_tup e h2, h3.same e⟩
theorem at0 {α : Type} {x : α} {xs : List α} : atI (x :: xs) 0 = some x := atI_nat (j := 0) rfl
theorem at1 {α : Type} {x y : α} {xs : List α} : atI (x :: y :: xs) 1 = some y := atI_nat (j := 1) rfl

section
variable {P : Program} {w : World} {K : PySem.W.Frag} {mg : Str → Option Value} {base : Heap}
/-! ### is_whole, is_letter -/
def spWhole : Sp := fun vs H Q _ => ∃ n : Int, vs = [.int n] ∧ Q (.bl true) H
theorem c_is_whole (T : Facts K mg) : C8.Cal P w K mg base 1 "is_whole" spWhole [] := by
  refine cal T.d_is_whole sc_is_whole (fun vs H Q E h => ?_) (fun f cdv A outer s H vs Q E hr h => ?_)
  · obtain ⟨n, rfl, _⟩ := h
    rfl
  · obtain ⟨n, rfl, q⟩ := h
    refine ⟨_, (pss_one (ps_ret (pe_and (pe_callB call_isi (by rfl) T.b_isinstance (by decide +kernel) (pa_cons (pv 0) (pa_cons (pe_bltn (v := .ty "int") (u := .type "int") rfl T.b_int (by decide +kernel) rfl) pa_nil))) (pe_one (pe_not (pe_callB call_isi (by rfl) T.b_isinstance (by decide +kernel) (pa_cons (pv 0) (pa_cons (pe_bltn (v := .ty "bool") (u := .type "bool") rfl T.b_bool (by decide +kernel) rfl) pa_nil)))))))), ?_⟩
    refine ⟨.int n, rfl, .int n, .ty "int", .type "int", .type "int", true, rfl, .ty "int", (.base (.int _)), kit_ty (by decide +kernel), true, rfl, ?_⟩
    refine iteT ?_
    refine ⟨.int n, rfl, .int n, .ty "bool", .type "int", .type "bool", false, rfl, .ty "bool", (.base (.int _)), kit_ty (by decide +kernel), false, rfl, ?_⟩
    exact q
def spLetterQ : Sp := fun vs H Q _ => ∃ c : Nat, vs = [tv [c]] ∧ 97 ≤ c ∧ c ≤ 122 ∧ Q (.bl true) H
theorem signs_all : ∀ c : Nat, 97 ≤ c → c ≤ 122 → c ∈ ((Str.ofString "abcdefghijklmnopqrstuvwxyz").cps.toList : List Nat) := by
  have h : ∀ i : Fin 26, (97 + i.val) ∈ ((Str.ofString "abcdefghijklmnopqrstuvwxyz").cps.toList : List Nat) := by decide +kernel
  intro c h1 h2
  have := h ⟨c - 97, by omega⟩
  have e : 97 + (c - 97) = c := by omega
  simpa [e] using this
theorem c_is_letter (T : Facts K mg) : C8.Cal P w K mg base 1 "is_letter" spLetterQ [] := by
  refine cal T.d_is_letter sc_is_letter (fun vs H Q E h => ?_) (fun f cdv A outer s H vs Q E hr h => ?_)
  · obtain ⟨n, rfl, _⟩ := h
    rfl
  · obtain ⟨c, rfl, h1, h2, q⟩ := h
    refine ⟨_, (pss_one (ps_ret (pe_and (pe_callB call_isi (by rfl) T.b_isinstance (by decide +kernel) (pa_cons (pv 0) (pa_cons (pe_bltn (v := .ty "str") (u := .type "str") rfl T.b_str (by decide +kernel) rfl) pa_nil))) (pe_and (pe_cmpR op_eq (pe_callB call_len (by rfl) T.b_len PySem.boot_len (pa_cons (pv 0) pa_nil)) pe_int (nomark _)) (pe_one (pe_cmpR op_in_sign (pv 0) (C8.pe_gc rfl T.g_SIGNS) rfl)))))), ?_⟩
    refine ⟨_, rfl, _, .ty "str", .type "str", .type "str", true, rfl, .ty "str", .base (.str _), kit_ty (by decide +kernel), true, rfl, iteT ?_⟩
    refine ⟨_, rfl, _, 1, rfl, ⟨small (Nat.le_trans (Nat.le_of_eq (S_len _)) (by decide : 1 ≤ 1000000)), rfl⟩, rfl, true, rfl, iteT ?_⟩
    refine ⟨_, rfl, c, _, rfl, rfl, ?_⟩
    rw [decide_eq_true (signs_all c h1 h2)]
    exact q
/-! ### letters, words_of, need_letter -/
def spLetters (K : PySem.W.Frag) : Sp := fun vs H Q _ => ∃ b first rs, vs = [b] ∧ BookAt K H b first rs ∧ rs.length ≤ 8 ∧ ∀ H', Same H H' → Q (tv (keysOf rs)) H'
theorem c_letters (T : Facts K mg) : C8.Cal P w K mg base 1 "letters" (spLetters K) [] := by
  refine cal T.d_letters sc_letters (fun vs H Q E h => ?_) (fun f cdv A outer s H vs Q E hr h => ?_)
  · obtain ⟨b, first, rs, rfl, _⟩ := h
    rfl
  · obtain ⟨b, first, rs, rfl, ⟨a, r, rfl, hb, ts, ht, hl, hi⟩, h8, q⟩ := h
    refine ⟨_, (pss_one (ps_ret (pe_join pe_str (pe_lc (own := [("rule", 1)]) (g := gName 1) (tt := tYes) rfl sc_letters.nd (pi_tup (pe_ix (r := rIxT K) ix_tup (pv 0) pe_int (fun _ _ => rfl))) (blkOk_by (N := ["book", "rule"]) (sc := defScope s_letters) (by decide +kernel)) (fun _ _ _ _ _ => pg_name (i := 1) sc_letters.nd rfl (Or.inl rfl)) (fun _ _ _ _ _ => pts_nil) (fun _ _ _ _ _ => (pe_ix (r := rIxT K) ix_tup (pv 1) pe_int (fun _ _ => rfl))))))), ?_⟩
    refine ⟨⟨_, rfl⟩, .ref a, rfl, a, _, 1, .ref r, rfl, rfl, hb, at1, r, rfl, ⟨_, ht⟩, fun D hD => ?_⟩
    refine lcn_val (walk_tup (xs := ts.map V.ref)) (fun i => tv [((keysOf rs)[i]?).getD 0]) (by rw [List.length_map]; omega) hD (fun H' sm => same_tup sm ht) (fun _ => rfl) (fun i x H' H'' Qc hlt sm y qc => ?_) (fun H' sm hd => ?_)
    · obtain ⟨rfl, hx⟩ := y
      rw [List.getElem?_map, Option.map_eq_some_iff] at hx
      obtain ⟨t, hx, rfl⟩ := hx
      have hlt2 : i < rs.length := by
        have := (List.getElem?_eq_some_iff.mp hx).1
        omega
      have hp : rs[i]? = some rs[i] := List.getElem?_eq_getElem hlt2
      refine ⟨_, rfl, t, _, 0, tv [rs[i].1], rfl, rfl, same_tup sm (hi i t _ hx hp), at0, ?_⟩
      have := qc H'' (Same.refl _)
      rw [keys_get hp] at this
      exact this
    · have e : ((List.range (ts.map V.ref).length).map fun i => tv [((keysOf rs)[i]?).getD 0]) = ((keysOf rs).map fun c => S [c]).map V.str := by
        rw [List.map_map, List.length_map, hl, show rs.length = (keysOf rs).length by unfold keysOf; rw [List.length_map]]
        refine range_get _ _ _ fun i c hc => ?_
        rw [hc]
        rfl
      rw [e] at hd
      refine ⟨_, D, (keysOf rs).map fun c => S [c], rfl, rfl, .inl (lst_of hd), ?_, ?_⟩
      · have e2 : (((keysOf rs).map fun c => S [c]).map (·.length)) = (keysOf rs).map fun _ => 1 := by
          rw [List.map_map]
          rfl
        rw [e2]
        have e3 : ((keysOf rs).map fun _ => 1).sum = rs.length := by
          unfold keysOf
          rw [List.map_map]
          have : ∀ l : Rls, (l.map ((fun _ => 1) ∘ fun p : Nat × Tx => p.1)).sum = l.length := fun l => by
            induction l with
            | nil => rfl
            | cons p l ih => rw [List.map_cons, List.sum_cons, ih, List.length_cons]; exact Nat.add_comm _ _
          exact this rs
        rw [e3]
        show _ + _ * 0 ≤ _
        omega
      · have e4 : ((keysOf rs).map fun c => S [c]) = ((keysOf rs).map fun c => [c]).map S := by
          rw [List.map_map]
          rfl
        have e5 : ((keysOf rs).map fun c => [c]).flatten = keysOf rs := by
          have : ∀ l : List Nat, (l.map fun c => [c]).flatten = l := fun l => by
            induction l with
            | nil => rfl
            | cons c l ih => rw [List.map_cons, List.flatten_cons, ih]; rfl
          exact this _
        have e6 := join_S ((keysOf rs).map fun c => [c])
        rw [e5, ← e4] at e6
        have := q H' sm
        unfold tv at this
        rw [← e6] at this
        exact this
theorem wordsKV_take {rs : Rls} (nd : (keysOf rs).Nodup) {i : Nat} {p : Nat × Tx} (h : rs[i]? = some p) : putK (wordsKV (rs.take i)) (Sum.inr (S [p.1])) (tv p.2) = wordsKV (rs.take (i + 1)) := by
  have hn : p.1 ∉ keysOf (rs.take i) := by
    intro hm
    unfold keysOf at hm
    rw [List.map_take, List.mem_take_iff_getElem] at hm
    obtain ⟨j, hj, e⟩ := hm
    have h2 := keys_get h
    obtain ⟨h3, h4⟩ := List.getElem?_eq_some_iff.mp h2
    have h5 : (List.map (fun x => x.fst) rs)[j]'(by omega) = (keysOf rs)[i] := e.trans h4.symm
    have h6 := (List.getElem_inj nd).mp h5
    omega
  rw [putK_new _ (wordsKV_new hn), List.take_add_one, h]
  unfold wordsKV
  rw [List.map_append]
  rfl
def spWordsOf (K : PySem.W.Frag) : Sp := fun vs H Q _ => ∃ b first rs, vs = [b] ∧ BookAt K H b first rs ∧ RlsOk rs ∧ ∀ H' d, Same H H' → H d = none → H' d = some (.dK (wordsKV rs)) → Q (.ref d) H'
theorem c_words_of (T : Facts K mg) : C8.Cal P w K mg base 1 "words_of" (spWordsOf K) [] := by
  refine cal T.d_words_of sc_words_of (fun vs H Q E h => ?_) (fun f cdv A outer s H vs Q E hr h => ?_)
  · obtain ⟨b, first, rs, rfl, _⟩ := h
    rfl
  · obtain ⟨b, first, rs, rfl, ⟨a, r, rfl, hb, ts, ht, hl, hi⟩, ok, q⟩ := h
    refine ⟨_, (pss_cons (ps_set (i := 1) sc_words_of.nd rfl (Or.inl rfl) pe_dnewK)
      (pss_cons (ps_for PassesOwn.never rfl (pi_tup (pe_ix (r := rIxT K) ix_tup (pv 0) pe_int (fun _ _ => rfl))) (pg_tup rfl (pgs_cons (pg_name (i := 2) sc_words_of.nd rfl (Or.inl rfl)) (pgs_cons (pg_name (i := 3) sc_words_of.nd rfl (Or.inl rfl)) pgs_nil)))
      (pss_one (ps_dput (hu_of hr) (pv 1) (pv 2) (pv 3) rfl)))
      (pss_one (ps_ret (pv 1))))), ?_⟩
    refine fun d hd => ?_
    have s1 : Same H (upd H d (.dK [])) := same_new hd
    refine ⟨.ref a, rfl, a, _, 1, .ref r, rfl, rfl, same_tup s1 hb, at1, r, rfl, ⟨_, same_tup s1 ht⟩, ?_⟩
    refine for_it (walk_tup (xs := ts.map V.ref)) (fun i σ H' => ∃ y2 y3, σ = [some (.ref a), some (.ref d), y2, y3] ∧ Same H H' ∧ H' d = some (.dK (wordsKV (rs.take i))))
      ⟨none, none, rfl, s1, upd_same⟩ (fun i σ H' _ p => ?_) (fun i x σ H' H'' hlt p y => ?_) (fun σ H' p => ?_)
    · obtain ⟨_, _, _, sm, _⟩ := p
      exact same_tup sm ht
    · obtain ⟨y2, y3, rfl, sm, ed⟩ := p
      obtain ⟨rfl, hx⟩ := y
      rw [List.getElem?_map, Option.map_eq_some_iff] at hx
      obtain ⟨t, hx, rfl⟩ := hx
      have hlt2 : i < rs.length := by
        have := (List.getElem?_eq_some_iff.mp hx).1
        omega
      have hp : rs[i]? = some rs[i] := List.getElem?_eq_getElem hlt2
      refine ⟨t, _, rfl, same_tup sm (hi i t _ hx hp), rfl, _, _, rfl, _, _, rfl, rfl, ?_⟩
      refine ⟨_, rfl, _, rfl, _, rfl, d, _, rfl, DPut.k (k := Sum.inr (S [rs[i].1])) ed ?_, some (tv [rs[i].1]), some (tv rs[i].2), rfl, same_mut sm hd, ?_⟩
      · have := ok.len
        refine small' ?_
        unfold wordsKV
        rw [List.length_map, List.length_take]
        omega
      · rw [upd_same, wordsKV_take ok.nd hp]
    · obtain ⟨y2, y3, rfl, sm, ed⟩ := p
      rw [List.length_map, hl, List.take_length] at ed
      exact ⟨_, rfl, q H' d sm hd ed⟩
/-! ### need_letter, need_age -/
def spNeedLetter (K : PySem.W.Frag) : Sp := fun vs H Q _ => ∃ b first rs c, vs = [b, tv [c]] ∧ BookAt K H b first rs ∧ RlsOk rs ∧ c ∈ keysOf rs ∧ ∀ H', Same H H' → Q .non H'
theorem c_need_letter (T : Facts K mg) : C8.Cal P w K mg base 2 "need_letter" (spNeedLetter K) [] := by
  refine cal T.d_need_letter sc_need_letter (fun vs H Q E h => ?_) (fun f cdv A outer s H vs Q E hr h => ?_)
  · obtain ⟨b, first, rs, c, rfl, _⟩ := h
    rfl
  · obtain ⟨b, first, rs, c, rfl, hb, ok, hc, q⟩ := h
    refine ⟨_, (pss_one (ps_if (PW.pt (pw_or (pt_not (pt_val (C8.pe_c (c_is_letter T) hr (by decide) rfl (pa_cons (pv 1) pa_nil)))) (pw_or1 (pt_cmpR op_notIn_sign (pv 1) (C8.pe_c (c_letters T) hr (by decide) rfl (pa_cons (pv 0) pa_nil)) rfl))))
      (pss_one ps_never)
      pss_nil)), ?_⟩
    have hs := ok.sign c hc
    refine ⟨_, rfl, c, rfl, hs.1, hs.2, true, rfl, iteF ?_⟩
    refine ⟨_, rfl, _, rfl, b, first, rs, rfl, hb, ok.len, fun H' sm => ⟨c, _, rfl, rfl, ?_⟩⟩
    refine ⟨_, rfl, ?_⟩
    rw [S_list, decide_eq_true hc]
    exact iteF (q H' sm)
def spNeedAge : Sp := fun vs H Q _ => ∃ n : Nat, vs = [.int (n : Int)] ∧ n ≤ 300 ∧ Q .non H
theorem c_need_age (T : Facts K mg) : C8.Cal P w K mg base 2 "need_age" spNeedAge [] := by
  refine cal T.d_need_age sc_need_age (fun vs H Q E h => ?_) (fun f cdv A outer s H vs Q E hr h => ?_)
  · obtain ⟨n, rfl, _⟩ := h
    rfl
  · obtain ⟨n, rfl, hn, q⟩ := h
    refine ⟨_, (pss_one (ps_if (PW.pt (pw_or (pt_not (pt_val (C8.pe_c (c_is_whole T) hr (by decide) rfl (pa_cons (pv 0) pa_nil)))) (pw_or (pt_cmpR op_lt (pv 0) pe_int (nomark _)) (pw_or1 (pt_cmpR op_gt (pv 0) (C8.pe_gc rfl T.g_LAST_AGE) (nomark _))))))
      (pss_one ps_never)
      pss_nil)), ?_⟩
    refine ⟨_, rfl, n, rfl, true, rfl, iteF ?_⟩
    refine ⟨_, rfl, _, _, rfl, rfl, _, rfl, ?_⟩
    rw [decide_eq_false (by omega)]
    refine iteF ?_
    refine ⟨_, rfl, _, _, rfl, rfl, _, rfl, ?_⟩
    rw [decide_eq_false (by omega)]
    exact iteF q
/-! ### turned_by -/
def spTurnedBy (K : PySem.W.Frag) : Sp := fun vs H Q _ => ∃ (d : Addr) (t : Tx) (rs : Rls), vs = [.ref d, tv t] ∧ Rd H d (.dK (wordsKV rs)) ∧ RlsOk rs ∧ t.length ≤ 100000 ∧ (∀ c ∈ t, c ∈ keysOf rs) ∧ ∀ H', Same H H' → Q (tv (tby (wOf rs) t)) H'
theorem c_turned_by (T : Facts K mg) : C8.Cal P w K mg base 1 "turned_by" (spTurnedBy K) [] := by
  refine cal T.d_turned_by sc_turned_by (fun vs H Q E h => ?_) (fun f cdv A outer s H vs Q E hr h => ?_)
  · obtain ⟨d, t, rs, rfl, _⟩ := h
    rfl
  · obtain ⟨d, t, rs, rfl, hd, ok, hl, hm, q⟩ := h
    refine ⟨_, (pss_one (ps_ret (pe_join pe_str (pe_lc (own := [("sign", 2)]) (g := gName 2) (tt := tYes) rfl sc_turned_by.nd (pi_str (pv 1)) (blkOk_by (N := ["words", "text", "sign"]) (sc := defScope s_turned_by) (by decide +kernel)) (fun _ _ _ _ _ => pg_name (i := 2) sc_turned_by.nd rfl (Or.inl rfl)) (fun _ _ _ _ _ => pts_nil) (fun _ _ _ _ _ => (pe_dget (hu_of hr) (pv 0) (pv 2) (fun _ _ => rfl))))))), ?_⟩
    refine ⟨⟨_, rfl⟩, _, rfl, _, rfl, fun D hD => ?_⟩
    refine lcn_val (walk_str (z := S t)) (fun i => tv (wOf rs ((t[i]?).getD 0))) (by rw [S_size]; omega) hD (fun _ _ => trivial) (fun _ => rfl) (fun i x H' H'' Qc hlt sm y qc => ?_) (fun H' sm hd' => ?_)
    · obtain ⟨rfl, c, hc, rfl⟩ := y
      rw [S_get] at hc
      refine ⟨_, rfl, _, rfl, d, _, rfl, dget_rd (k := Sum.inr (S [c])) (same_rd sm hd) (wordsKV_get ok (hm c (List.mem_of_getElem? hc))), ?_⟩
      have := qc H'' (Same.refl _)
      rw [hc] at this
      exact this
    · have e : ((List.range (S t).cps.size).map fun i => tv (wOf rs ((t[i]?).getD 0))) = (t.map fun c => S (wOf rs c)).map V.str := by
        rw [List.map_map, S_size]
        refine range_get _ _ _ fun i c hc => ?_
        rw [hc]
        rfl
      rw [e] at hd'
      have e4 : (t.map fun c => S (wOf rs c)) = (t.map (wOf rs)).map S := by
        rw [List.map_map]
        rfl
      refine ⟨_, D, (t.map fun c => S (wOf rs c)), rfl, rfl, .inl (lst_of hd'), ?_, ?_⟩
      · have e2 : ((t.map fun c => S (wOf rs c)).map (·.length)).sum = (tby (wOf rs) t).length := by
          rw [List.map_map]
          unfold tby
          rw [List.length_flatMap]
          congr 1
        rw [e2]
        have := ok.tlen hm
        show _ + _ * 0 ≤ _
        omega
      · have e6 := join_S (t.map (wOf rs))
        rw [← e4] at e6
        have := q H' sm
        unfold tv at this
        rw [show tby (wOf rs) t = (t.map (wOf rs)).flatten from rfl, ← e6] at this
        exact this
/-! ### rows, row -/
def rowsV (rs : Rls) (first : Tx) (n : Nat) : List V := (List.range n).map fun i => tv (rowN (wOf rs) i first)
theorem rowsV_succ (rs : Rls) (first : Tx) (n : Nat) : rowsV rs first (n + 1) = rowsV rs first n ++ [tv (rowN (wOf rs) n first)] := by
  unfold rowsV
  rw [List.range_succ, List.map_append]
  rfl
theorem rowsV_get {rs : Rls} {first : Tx} {n i : Nat} (h : i < n) : (rowsV rs first n)[i]? = some (tv (rowN (wOf rs) i first)) := by
  unfold rowsV
  rw [List.getElem?_map, List.getElem?_range h]
  rfl
def spRows (K : PySem.W.Frag) : Sp := fun vs H Q _ => ∃ (b : V) (first : Tx) (rs : Rls) (n : Nat), vs = [b, .int (n : Int)] ∧ BookAt K H b first rs ∧ RlsOk rs ∧ n ≤ 300 ∧ (∀ c ∈ first, c ∈ keysOf rs) ∧ (∀ i, i ≤ n → (rowN (wOf rs) i first).length ≤ 600) ∧
  ∀ H' p, Same H H' → H p = none → H' p = some (.lst (rowsV rs first (n + 1))) → Q (.ref p) H'
theorem c_rows (T : Facts K mg) : C8.Cal P w K mg base 3 "rows" (spRows K) [] := by
  refine cal T.d_rows sc_rows (fun vs H Q E h => ?_) (fun f cdv A outer s H vs Q E hr h => ?_)
  · obtain ⟨b, first, rs, n, rfl, _⟩ := h
    rfl
  · obtain ⟨b, first, rs, n, rfl, hb, ok, hn, hm, h6, q⟩ := h
    refine ⟨_, (pss_cons (ps_expr (C8.pe_c (c_need_age T) hr (by decide) rfl (pa_cons (pv 1) pa_nil)))
      (pss_cons (ps_set (i := 2) sc_rows.nd rfl (Or.inl rfl) (C8.pe_c (c_words_of T) hr (by decide) rfl (pa_cons (pv 0) pa_nil)))
      (pss_cons (ps_set (i := 3) sc_rows.nd rfl (Or.inl rfl) (pe_lst (pa_cons (pe_ix (r := rIxT K) ix_tup (pv 0) pe_int (fun _ _ => rfl)) pa_nil)))
      (pss_cons (ps_for PassesOwn.never rfl (pi_range1 rfl T.b_range (pa_cons (pv 1) pa_nil)) (pg_name (i := 4) sc_rows.nd rfl (Or.inl rfl))
      (pss_cons (ps_set (i := 5) sc_rows.nd rfl (Or.inl rfl) (C8.pe_c (c_turned_by T) hr (by decide) rfl (pa_cons (pv 2) (pa_cons (pe_ix (r := rIxL K) ix_list (pv 3) (pv 4) (fun _ _ => rfl)) pa_nil))))
        (pss_cons (ps_if (pt_cmpR op_gt (pe_callB call_len (by rfl) T.b_len PySem.boot_len (pa_cons (pv 5) pa_nil)) (C8.pe_gc rfl T.g_MOST_ROW) (nomark _))
        (pss_one ps_never)
        pss_nil)
        (pss_one (ps_expr (pe_bm PySem.F.plainAttrs_list PySem.F.slot_list_append PySem.F.type_list_append mt_append (pv 3) (pa_cons (pv 5) pa_nil)))))))
      (pss_one (ps_ret (pv 3))))))), ?_⟩
    refine ⟨_, rfl, n, rfl, hn, ?_⟩
    refine ⟨_, rfl, b, first, rs, rfl, hb, ok, fun H1 d s1 nd ed => ?_⟩
    obtain ⟨a, r, rfl, hb2, hr2⟩ := hb
    refine ⟨_, rfl, a, _, 0, tv first, rfl, rfl, same_tup s1 hb2, at0, (by show 1 ≤ sizeLine; decide), fun p np => ?_⟩
    have np0 : H p = none := s1.free np
    refine ⟨_, rfl, (n : Int), rfl, by omega, by omega, ?_⟩
    refine for_it walk_range (fun i σ H' => ∃ y4 y5, σ = [some (.ref a), some (.int n), some (.ref d), some (.ref p), y4, y5] ∧ Same H1 H' ∧ H' p = some (.lst (rowsV rs first (i + 1))))
      ⟨none, none, rfl, same_new np, upd_same⟩ (fun _ _ _ _ _ => trivial) (fun i x σ H' H'' hlt p y => ?_) (fun σ H' p => ?_)
    · obtain ⟨y4, y5, rfl, sm, ep⟩ := p
      obtain ⟨rfl, rfl⟩ := y
      have hlt2 : i < n := by omega
      refine ⟨_, rfl, _, rfl, _, rfl, p, _, _, tv (rowN (wOf rs) i first), rfl, rfl, lst_of ep, at_of (j := i) (by omega) (rowsV_get (by omega)), ?_⟩
      refine ⟨d, _, rs, rfl, .inl (sm _ _ ed), ok, by have := h6 i (by omega); omega, rowN_mem ok.wmem i hm, fun H2 s2 => ?_⟩
      rw [← rowN_succ]
      have h7 := h6 (i + 1) (by omega)
      refine ⟨_, rfl, _, _, rfl, ⟨small (by rw [S_len]; omega), rfl⟩, _, _, rfl, rfl, _, rfl, ?_⟩
      rw [S_len, decide_eq_false (by omega)]
      refine iteF ?_
      refine ⟨_, rfl, .inl ⟨rfl, _, lst_of (s2 _ _ ep)⟩, _, rfl, p, _, _, rfl, rfl, s2 _ _ ep, ?_, ?_⟩
      · unfold rowsV
        rw [List.length_map, List.length_range]
        exact small' (by omega)
      · refine ⟨_, _, rfl, same_mut (sm.trans s2) np, ?_⟩
        rw [upd_same, ← rowsV_succ]
    · obtain ⟨y4, y5, rfl, sm, ep⟩ := p
      have e : ((n : Int)).toNat = n := by omega
      rw [e] at ep
      exact ⟨_, rfl, q H' p (s1.trans sm) np0 ep⟩
def spRow (K : PySem.W.Frag) : Sp := fun vs H Q _ => ∃ (b : V) (first : Tx) (rs : Rls) (n : Nat), vs = [b, .int (n : Int)] ∧ BookAt K H b first rs ∧ RlsOk rs ∧ n ≤ 300 ∧ (∀ c ∈ first, c ∈ keysOf rs) ∧ (∀ i, i ≤ n → (rowN (wOf rs) i first).length ≤ 600) ∧
  ∀ H', Same H H' → Q (tv (rowN (wOf rs) n first)) H'
theorem c_row (T : Facts K mg) : C8.Cal P w K mg base 4 "row" (spRow K) [] := by
  refine cal T.d_row sc_row (fun vs H Q E h => ?_) (fun f cdv A outer s H vs Q E hr h => ?_)
  · obtain ⟨b, first, rs, n, rfl, _⟩ := h
    rfl
  · obtain ⟨b, first, rs, n, rfl, hb, ok, hn, hm, h6, q⟩ := h
    refine ⟨_, (pss_one (ps_ret (pe_ix (r := rIxL K) ix_list (C8.pe_c (c_rows T) hr (by decide) rfl (pa_cons (pv 0) (pa_cons (pv 1) pa_nil))) (pv 1) (fun _ _ => rfl)))), ?_⟩
    refine ⟨_, rfl, _, rfl, b, first, rs, n, rfl, hb, ok, hn, hm, h6, fun H' p sm np ep => ?_⟩
    exact ⟨_, rfl, p, _, _, _, rfl, rfl, lst_of ep, at_of rfl (rowsV_get (by omega)), q H' sm⟩
end
end Lg
/-! pieces.py walked: early_part, even_places, onward_places, cut, added -/
namespace Lg
open PySem PySem.Spec PyProof.Rows L2
theorem cutS_nat (t : Tx) (a b : Nat) : cutS (S t) (some (a : Int)) (some (b : Int)) = S (sub t a b) := by
  unfold cutS
  rw [HT.sIx_nat, HT.sIx_nat, S_list, S_len]
  unfold sub
  congr 1
  congr 1
  by_cases h : a ≤ t.length
  · rw [Nat.min_eq_left h]
    by_cases h2 : b ≤ t.length
    · rw [Nat.min_eq_left h2]
    · rw [Nat.min_eq_right (by omega : t.length ≤ b)]
      rw [List.take_of_length_le (by rw [List.length_drop]; omega), List.take_of_length_le (by rw [List.length_drop]; omega)]
  · rw [Nat.min_eq_right (by omega : t.length ≤ a), List.drop_of_length_le (Nat.le_refl _), List.drop_of_length_le (by omega : t.length ≤ a)]
    simp
theorem cutV_from (xs : List V) (a : Nat) : cutV xs (some (a : Int)) none = xs.drop a := by
  unfold cutV
  rw [HT.sIx_nat, HT.sIx_none]
  by_cases h : a ≤ xs.length
  · rw [Nat.min_eq_left h]
    exact List.take_of_length_le (by rw [List.length_drop]; omega)
  · rw [Nat.min_eq_right (by omega : xs.length ≤ a), List.drop_of_length_le (Nat.le_refl _), List.drop_of_length_le (by omega : xs.length ≤ a)]
    simp
theorem cutV_to (xs : List V) (b : Nat) : cutV xs none (some (b : Int)) = xs.take b := by
  unfold cutV
  rw [HT.sIx_nat, HT.sIx_none, List.drop_zero, Nat.sub_zero]
  by_cases h : b ≤ xs.length
  · rw [Nat.min_eq_left h]
  · rw [Nat.min_eq_right (by omega), List.take_of_length_le (Nat.le_refl _), List.take_of_length_le (by omega)]
theorem tv_eq {a b : Tx} : (tv a = tv b) ↔ a = b := ⟨tv_inj, fun h => by rw [h]⟩
theorem append_str (a b : Tx) : V.str (S a ++ S b) = tv (a ++ b) := by rw [S_app]

theorem walk_enumS {z : Str} : Walk (IteS z) z.cps.size (fun _ => True) (fun i H v H' => ∃ T c, v = .ref T ∧ H T = none ∧ H' = upd H T (.tup [.int (i : Nat), .str ⟨#[c]⟩]) ∧ z.cps[i]? = some c) :=
  ⟨fun _ _ hi _ => hi, fun _ _ => rfl, fun _ _ _ _ _ _ y => y⟩
section
variable {P : Program} {w : World} {K : PySem.W.Frag} {mg : Str → Option Value} {base : Heap}
/-! ### early_part -/
def EarlyOk (r1 r2 : Rls) (f1 f2 : Tx) (n : Nat) : Prop := n ≤ 20 ∧ (∀ k, k ≤ n → (rowN (wOf r1) k f1).length ≤ 300 ∧ (rowN (wOf r2) k f2).length ≤ 300) ∧ rowN (wOf r1) n f1 ≠ rowN (wOf r2) n f2
def spEarly (K : PySem.W.Frag) : Sp := fun vs H Q _ => ∃ (b1 b2 : V) (f1 f2 : Tx) (r1 r2 : Rls), vs = [b1, b2] ∧ BookAt K H b1 f1 r1 ∧ BookAt K H b2 f2 r2 ∧ RlsOk r1 ∧ RlsOk r2 ∧ f1.length ≤ 12 ∧ f2.length ≤ 12 ∧ (∀ c ∈ f1, c ∈ keysOf r1) ∧ (∀ c ∈ f2, c ∈ keysOf r2) ∧
  ∀ H', Same H H' → (f1 = f2 → Q .non H') ∧ ∀ n : Nat, EarlyOk r1 r2 f1 f2 n → Q (.int (n : Int)) H'
theorem c_early_part (T : Facts K mg) : C8.Cal P w K mg base 2 "early_part" (spEarly K) [] := by
  refine cal T.d_early_part sc_early_part (fun vs H Q E h => ?_) (fun f cdv A outer s H vs Q E hr h => ?_)
  · obtain ⟨b1, b2, f1, f2, r1, r2, rfl, _⟩ := h
    rfl
  · obtain ⟨b1, b2, f1, f2, r1, r2, rfl, hb1, hb2, o1, o2, l1, l2, m1, m2, q⟩ := h
    refine ⟨_, (pss_cons (ps_set (i := 2) sc_early_part.nd rfl (Or.inl rfl) (C8.pe_c (c_words_of T) hr (by decide) rfl (pa_cons (pv 0) pa_nil)))
      (pss_cons (ps_set (i := 3) sc_early_part.nd rfl (Or.inl rfl) (C8.pe_c (c_words_of T) hr (by decide) rfl (pa_cons (pv 1) pa_nil)))
      (pss_cons (ps_set (i := 4) sc_early_part.nd rfl (Or.inl rfl) (pe_ix (r := rIxT K) ix_tup (pv 0) pe_int (fun _ _ => rfl)))
      (pss_cons (ps_set (i := 5) sc_early_part.nd rfl (Or.inl rfl) (pe_ix (r := rIxT K) ix_tup (pv 1) pe_int (fun _ _ => rfl)))
      (pss_cons (ps_for PassesOwn.never rfl (pi_range1 rfl T.b_range (pa_cons (pe_op op_add (C8.pe_gc rfl T.g_EARLY_AGE) pe_int) pa_nil)) (pg_name (i := 6) sc_early_part.nd rfl (Or.inl rfl))
      (pss_cons (ps_if (PW.pt (pw_or (pt_cmpR op_gt (pe_callB call_len (by rfl) T.b_len PySem.boot_len (pa_cons (pv 4) pa_nil)) (C8.pe_gc rfl T.g_EARLY_ROW) (nomark _)) (pw_or1 (pt_cmpR op_gt (pe_callB call_len (by rfl) T.b_len PySem.boot_len (pa_cons (pv 5) pa_nil)) (C8.pe_gc rfl T.g_EARLY_ROW) (nomark _)))))
        (pss_one (ps_ret pe_non))
        pss_nil)
        (pss_cons (ps_if (pt_cmpR op_ne (pv 4) (pv 5) (nomark _))
        (pss_one (ps_ret (pv 6)))
        pss_nil)
        (pss_cons (ps_set (i := 4) sc_early_part.nd rfl (Or.inl rfl) (C8.pe_c (c_turned_by T) hr (by decide) rfl (pa_cons (pv 2) (pa_cons (pv 4) pa_nil))))
        (pss_one (ps_set (i := 5) sc_early_part.nd rfl (Or.inl rfl) (C8.pe_c (c_turned_by T) hr (by decide) rfl (pa_cons (pv 3) (pa_cons (pv 5) pa_nil)))))))))
      (pss_one (ps_ret pe_non))))))), ?_⟩
    refine ⟨_, rfl, b1, f1, r1, rfl, hb1, o1, fun H1 d1 s1 n1 e1 => ?_⟩
    refine ⟨_, rfl, b2, f2, r2, rfl, hb2.same s1, o2, fun H2 d2 s2 n2 e2 => ?_⟩
    have s02 : Same H H2 := s1.trans s2
    obtain ⟨a1, t1, rfl, ha1, _⟩ := hb1
    obtain ⟨a2, t2, rfl, ha2, _⟩ := hb2
    refine ⟨_, rfl, a1, _, 0, tv f1, rfl, rfl, same_tup s02 ha1, at0, ?_⟩
    refine ⟨_, rfl, a2, _, 0, tv f2, rfl, rfl, same_tup s02 ha2, at0, ?_⟩
    refine ⟨20, 1, rfl, rfl, _, rfl, by decide, by decide, ?_⟩
    refine for_it walk_range (fun i σ H' => ∃ y6, σ = [some (.ref a1), some (.ref a2), some (.ref d1), some (.ref d2), some (tv (rowN (wOf r1) i f1)), some (tv (rowN (wOf r2) i f2)), y6] ∧ Same H2 H' ∧
        (∀ k, k < i → (rowN (wOf r1) k f1).length ≤ 300 ∧ (rowN (wOf r2) k f2).length ≤ 300) ∧ (rowN (wOf r1) i f1).length ≤ 1800 ∧ (rowN (wOf r2) i f2).length ≤ 1800 ∧ (0 < i → f1 = f2))
      ⟨none, rfl, .refl _, fun k h => absurd h (Nat.not_lt_zero _), Nat.le_trans l1 (by decide), Nat.le_trans l2 (by decide), fun h => absurd h (Nat.lt_irrefl _)⟩ (fun _ _ _ _ _ => trivial) (fun i x σ H' H'' hlt p y => ?_) (fun σ H' p => ?_)
    · obtain ⟨y6, rfl, sm, hk, b1', b2', hf⟩ := p
      obtain ⟨rfl, rfl⟩ := y
      have e20 : ((20 + 1 : Int)).toNat = 21 := rfl
      have hlt2 : i < 21 := hlt
      have hfn : i = 0 → (rowN (wOf r1) i f1).length ≤ 300 ∧ (rowN (wOf r2) i f2).length ≤ 300 := fun h => by
        subst h
        exact ⟨Nat.le_trans l1 (by decide), Nat.le_trans l2 (by decide)⟩
      have early : ¬ i = 0 → Q .non H'' := fun h => (q H'' (s02.trans sm)).1 (hf (by omega))
      refine ⟨_, rfl, _, _, rfl, ⟨small (by rw [S_len]; omega), rfl⟩, _, _, rfl, rfl, _, rfl, ite2 (fun e => iteT ?_) (fun e => ?_)⟩
      · rw [S_len] at e
        have := of_decide_eq_true e
        exact early fun h => by have := (hfn h).1; omega
      refine ⟨_, rfl, _, _, rfl, ⟨small (by rw [S_len]; omega), rfl⟩, _, _, rfl, rfl, _, rfl, ite2 (fun e' => ?_) (fun e' => ?_)⟩
      · rw [S_len] at e'
        have := of_decide_eq_true e'
        exact early fun h => by have := (hfn h).2; omega
      rw [S_len] at e e'
      have c1 : (rowN (wOf r1) i f1).length ≤ 300 := by
        simp at e
        omega
      have c2 : (rowN (wOf r2) i f2).length ≤ 300 := by
        simp at e'
        omega
      refine ⟨_, rfl, _, rfl, rfl, _, rfl, ite2 (fun e3 => ?_) (fun e3 => ?_)⟩
      · have ne : rowN (wOf r1) i f1 ≠ rowN (wOf r2) i f2 := by
          intro h
          rw [h] at e3
          simp at e3
        have e0 : (0 : Int) + (i : Int) = (i : Int) := Int.zero_add _
        refine ⟨_, rfl, ?_⟩
        show Q (.int ((0 : Int) + (i : Int))) H''
        rw [e0]
        refine (q H'' (s02.trans sm)).2 i ⟨by omega, fun k hk' => ?_, ne⟩
        rcases Nat.lt_or_eq_of_le hk' with h | h
        · exact hk k h
        · rw [h]
          exact ⟨c1, c2⟩
      · have eq : rowN (wOf r1) i f1 = rowN (wOf r2) i f2 := by
          simp at e3
          exact e3
        have g1 := rowN_mem o1.wmem i m1
        have g2 := rowN_mem o2.wmem i m2
        have t1' := o1.tlen g1
        have t2' := o2.tlen g2
        refine ⟨_, rfl, _, rfl, d1, _, r1, rfl, .inl (sm _ _ (s2 _ _ e1)), o1, by omega, g1, fun H3 s3 => ?_⟩
        refine ⟨_, rfl, _, rfl, d2, _, r2, rfl, .inl (s3 _ _ (sm _ _ e2)), o2, by omega, g2, fun H4 s4 => ?_⟩
        rw [← rowN_succ, ← rowN_succ]
        refine ⟨_, rfl, (sm.trans s3).trans s4, fun k hk' => ?_, by rw [rowN_succ]; omega, by rw [rowN_succ]; omega, fun _ => ?_⟩
        · rcases Nat.lt_or_eq_of_le (Nat.le_of_lt_succ hk') with h | h
          · exact hk k h
          · rw [h]
            exact ⟨c1, c2⟩
        · by_cases hi : i = 0
          · subst hi
            exact eq
          · exact hf (by omega)
    · obtain ⟨y6, rfl, sm, hk, b1', b2', hf⟩ := p
      exact (q H' (s02.trans sm)).1 (hf (by decide))
/-! ### even_places -/
structure PsOk (r1 r2 : Rls) (t : Tx) (ps : List Nat) : Prop where
  head : ps.head? = some 0
  asc : ps.Pairwise (· < ·)
  even : ∀ p ∈ ps, Even (wOf r1) (wOf r2) t p
  len : ps.length ≤ t.length + 1
abbrev natsV (ps : List Nat) : List V := ps.map fun (n : Nat) => V.int (n : Int)
theorem sub_self (t : Tx) (p : Nat) : sub t p p = [] := by
  unfold sub
  rw [Nat.sub_self]
  rfl
theorem sub_snoc {t : Tx} {p i c : Nat} (h : p ≤ i) (hc : t[i]? = some c) : sub t p (i + 1) = sub t p i ++ [c] := by
  unfold sub
  have e : i + 1 - p = (i - p) + 1 := by omega
  rw [e, List.take_add_one, List.getElem?_drop]
  have e2 : p + (i - p) = i := by omega
  rw [e2, hc]
  rfl
def spEven (K : PySem.W.Frag) : Sp := fun vs H Q _ => ∃ (d1 d2 : Addr) (t : Tx) (r1 r2 : Rls), vs = [.ref d1, .ref d2, tv t] ∧ Rd H d1 (.dK (wordsKV r1)) ∧ Rd H d2 (.dK (wordsKV r2)) ∧ RlsOk r1 ∧ RlsOk r2 ∧ t.length ≤ 1000 ∧ (∀ c ∈ t, c ∈ keysOf r1) ∧ (∀ c ∈ t, c ∈ keysOf r2) ∧
  ∀ H' p ps, Same H H' → H p = none → H' p = some (.lst (natsV ps)) → PsOk r1 r2 t ps → Q (.ref p) H'
theorem c_even_places (T : Facts K mg) : C8.Cal P w K mg base 1 "even_places" (spEven K) [] := by
  refine cal T.d_even_places sc_even_places (fun vs H Q E h => ?_) (fun f cdv A outer s H vs Q E hr h => ?_)
  · obtain ⟨d1, d2, t, r1, r2, rfl, _⟩ := h
    rfl
  · obtain ⟨d1, d2, t, r1, r2, rfl, hd1, hd2, o1, o2, hl, m1, m2, q⟩ := h
    refine ⟨_, (pss_cons (ps_set (i := 3) sc_even_places.nd rfl (Or.inl rfl) (pe_lst (pa_cons pe_int pa_nil)))
      (pss_cons (ps_set (i := 4) sc_even_places.nd rfl (Or.inl rfl) pe_str)
      (pss_cons (ps_set (i := 5) sc_even_places.nd rfl (Or.inl rfl) pe_str)
      (pss_cons (ps_for PassesOwn.never rfl (pi_enumS (by rfl) T.b_enumerate (pa_cons (pv 2) pa_nil)) (pg_tup rfl (pgs_cons (pg_name (i := 6) sc_even_places.nd rfl (Or.inl rfl)) (pgs_cons (pg_name (i := 7) sc_even_places.nd rfl (Or.inl rfl)) pgs_nil)))
      (pss_cons (ps_set (i := 4) sc_even_places.nd rfl (Or.inl rfl) (pe_op op_add_str (pv 4) (pe_dget (hu_of hr) (pv 0) (pv 7) (fun _ _ => rfl))))
        (pss_cons (ps_set (i := 5) sc_even_places.nd rfl (Or.inl rfl) (pe_op op_add_str (pv 5) (pe_dget (hu_of hr) (pv 1) (pv 7) (fun _ _ => rfl))))
        (pss_one (ps_if (pt_cmpR op_eq (pv 4) (pv 5) (nomark _))
        (pss_cons (ps_expr (pe_bm PySem.F.plainAttrs_list PySem.F.slot_list_append PySem.F.type_list_append mt_append (pv 3) (pa_cons (pe_op op_add (pv 6) pe_int) pa_nil)))
          (pss_cons (ps_set (i := 4) sc_even_places.nd rfl (Or.inl rfl) pe_str)
          (pss_one (ps_set (i := 5) sc_even_places.nd rfl (Or.inl rfl) pe_str))))
        pss_nil)))))
      (pss_one (ps_ret (pv 3))))))), ?_⟩
    refine ⟨by show 1 ≤ sizeLine; decide, fun p np => ?_⟩
    refine ⟨_, rfl, _, rfl, ?_⟩
    refine for_it (walk_enumS (z := S t)) (fun i σ H' => ∃ x4 x5 y6 y7 p0 ps, σ = [some (.ref d1), some (.ref d2), some (tv t), some (.ref p), some x4, some x5, y6, y7] ∧ Same H H' ∧ H' p = some (.lst (natsV ps)) ∧
        x4 = tv (tby (wOf r1) (sub t p0 i)) ∧ x5 = tv (tby (wOf r2) (sub t p0 i)) ∧ p0 ≤ i ∧ Even (wOf r1) (wOf r2) t p0 ∧ ps.head? = some 0 ∧ ps.Pairwise (· < ·) ∧ (∀ k ∈ ps, k ≤ i ∧ Even (wOf r1) (wOf r2) t k) ∧ ps.length ≤ i + 1)
      ⟨_, _, none, none, 0, [0], rfl, same_new np, upd_same, rfl, rfl, Nat.le_refl _, ⟨Nat.zero_le _, rfl⟩, rfl, List.pairwise_singleton _ _, fun k hk => ?_, Nat.le_refl _⟩ (fun _ _ _ _ _ => trivial) (fun i x σ H' H'' hlt p y => ?_) (fun σ H' p => ?_)
    · rw [List.mem_singleton.mp hk]
      exact ⟨Nat.le_refl _, Nat.zero_le _, rfl⟩
    · obtain ⟨x4, x5, y6, y7, p0, ps, rfl, sm, ep, rfl, rfl, hp0, he0, hh, hpw, hev, hpl⟩ := p
      obtain ⟨T', c, rfl, nT, rfl, hc⟩ := y
      rw [S_get] at hc
      rw [S_size] at hlt
      have sT : Same H' (upd H' T' (.tup [.int (i : Nat), .str ⟨#[c]⟩])) := same_new nT
      have hc1 := m1 c (List.mem_of_getElem? hc)
      have hc2 := m2 c (List.mem_of_getElem? hc)
      have hsl : (sub t p0 i).length ≤ 1000 := by rw [sub_len hp0 (by omega)]; omega
      have hl1 := o1.tlen (t := sub t p0 i) fun d hd => m1 d (sub_mem d hd)
      have hl2 := o2.tlen (t := sub t p0 i) fun d hd => m2 d (sub_mem d hd)
      have hw1 := o1.wlen hc1
      have hw2 := o2.wlen hc2
      refine ⟨T', _, rfl, tup_of upd_same, rfl, _, _, rfl, _, _, rfl, rfl, ?_⟩
      refine ⟨_, rfl, _, rfl, _, rfl, d1, _, rfl, dget_rd (k := Sum.inr (S [c])) (same_rd (sm.trans sT) hd1) (wordsKV_get o1 hc1), _, _, rfl, rfl, small (by rw [S_len, S_len]; omega), ?_⟩
      refine ⟨_, rfl, _, rfl, _, rfl, d2, _, rfl, dget_rd (k := Sum.inr (S [c])) (same_rd (sm.trans sT) hd2) (wordsKV_get o2 hc2), _, _, rfl, rfl, small (by rw [S_len, S_len]; omega), ?_⟩
      have e1 : V.str (S (tby (wOf r1) (sub t p0 i)) ++ S (wOf r1 c)) = tv (tby (wOf r1) (sub t p0 (i + 1))) := by
        rw [append_str, sub_snoc hp0 hc, tby_app, tby_one]
      have e2 : V.str (S (tby (wOf r2) (sub t p0 i)) ++ S (wOf r2 c)) = tv (tby (wOf r2) (sub t p0 (i + 1))) := by
        rw [append_str, sub_snoc hp0 hc, tby_app, tby_one]
      have hev' : ∀ k ∈ ps, k ≤ i + 1 ∧ Even (wOf r1) (wOf r2) t k := fun k hk => ⟨Nat.le_succ_of_le (hev k hk).1, (hev k hk).2⟩
      refine ⟨_, rfl, _, rfl, rfl, _, rfl, ite2 (fun e => ?_) (fun e => ?_)⟩
      · have eq : tby (wOf r1) (sub t p0 (i + 1)) = tby (wOf r2) (sub t p0 (i + 1)) := by
          have := of_decide_eq_true e
          rw [e1, e2] at this
          exact tv_inj this
        have hE : Even (wOf r1) (wOf r2) t (i + 1) := ⟨by omega, by rw [sub_take (by omega : p0 ≤ i + 1), tby_app, tby_app, he0.2, eq]⟩
        refine ⟨_, rfl, .inl ⟨rfl, _, lst_of (sT _ _ ep)⟩, _, rfl, _, _, rfl, rfl, p, _, _, rfl, rfl, sT _ _ ep, ?_, ?_⟩
        · rw [List.length_map]
          exact small' (by omega)
        · refine ⟨_, _, some (.int (i : Nat)), some (.str ⟨#[c]⟩), i + 1, ps ++ [i + 1], rfl, same_mut (sm.trans sT) np, ?_, ?_, ?_, Nat.le_refl _, hE, ?_, ?_, ?_, ?_⟩
          · rw [upd_same, natsV, natsV, List.map_append]
            rfl
          · rw [sub_self]
            rfl
          · rw [sub_self]
            rfl
          · cases ps with
            | nil => simp at hh
            | cons a l => exact hh
          · refine List.pairwise_append.mpr ⟨hpw, List.pairwise_singleton _ _, fun a ha b hb => ?_⟩
            rw [List.mem_singleton.mp hb]
            have := (hev a ha).1
            omega
          · intro k hk
            rcases List.mem_append.mp hk with h | h
            · exact hev' k h
            · rw [List.mem_singleton.mp h]
              exact ⟨Nat.le_refl _, hE⟩
          · rw [List.length_append]
            show _ + 1 ≤ _
            omega
      · exact ⟨_, _, _, _, p0, ps, rfl, sm.trans sT, sT _ _ ep, e1, e2, by omega, he0, hh, hpw, hev', by omega⟩
    · obtain ⟨x4, x5, y6, y7, p0, ps, rfl, sm, ep, _, _, _, _, hh, hpw, hev, hpl⟩ := p
      rw [S_size] at hpl
      exact ⟨_, rfl, q H' p ps sm np ep ⟨hh, hpw, fun k hk => (hev k hk).2, hpl⟩⟩
/-! ### onward_places -/
def OnOk (r1 r2 : Rls) (t : Tx) (kvb kvo : List (Key × V)) : Prop :=
  ∀ k v, valV kvo k = some v → ∃ a q : Nat, k = Sum.inl (a : Int) ∧ v = .int (q : Int) ∧ Even (wOf r1) (wOf r2) t a ∧
    (a = t.length ∨ (a < q ∧ q ≤ a + 40 ∧ Even (wOf r1) (wOf r2) t q ∧ (valV kvo (Sum.inl (q : Int))).isSome = true ∧ valV kvb (Sum.inr (S (sub t a q))) = none))
theorem OnOk.put {r1 r2 : Rls} {t : Tx} {kvb kvo : List (Key × V)} (h : OnOk r1 r2 t kvb kvo) {a q : Nat} (ha : Even (wOf r1) (wOf r2) t a) (hq : Even (wOf r1) (wOf r2) t q) (h1 : a < q) (h2 : q ≤ a + 40) (h3 : (valV kvo (Sum.inl (q : Int))).isSome = true) (h4 : valV kvb (Sum.inr (S (sub t a q))) = none) :
    OnOk r1 r2 t kvb (putK kvo (Sum.inl (a : Int)) (.int (q : Int))) := by
  have mono : ∀ k : Key, (valV kvo k).isSome = true → (valV (putK kvo (Sum.inl (a : Int)) (.int (q : Int))) k).isSome = true := fun k hk => by
    rw [valV_put]
    split
    · rfl
    · exact hk
  intro k v hv
  rw [valV_put] at hv
  by_cases e : k = Sum.inl (a : Int)
  · rw [if_pos e] at hv
    exact ⟨a, q, e, (Option.some.inj hv).symm, ha, .inr ⟨h1, h2, hq, mono _ h3, h4⟩⟩
  · rw [if_neg e] at hv
    obtain ⟨a', q', e1, e2, e3, e4⟩ := h k v hv
    refine ⟨a', q', e1, e2, e3, ?_⟩
    rcases e4 with e4 | ⟨g1, g2, g3, g4, g5⟩
    · exact .inl e4
    · exact .inr ⟨g1, g2, g3, mono _ g4, g5⟩
theorem natsV_at {ps : List Nat} {i a : Nat} {z : Int} (e : z = (i : Int)) (h : ps[i]? = some a) : atI (natsV ps) z = some (.int (a : Int)) := by
  refine at_of e ?_
  rw [List.getElem?_map, h]
  rfl
def spOnward (K : PySem.W.Frag) : Sp := fun vs H Q _ => ∃ (t : Tx) (pl b : Addr) (r1 r2 : Rls) (ps : List Nat) (kvb : List (Key × V)), vs = [tv t, .ref pl, .ref b] ∧ SqL K H pl (natsV ps) ∧ PsOk r1 r2 t ps ∧ Even (wOf r1) (wOf r2) t t.length ∧ Rd H b (.dK kvb) ∧ t.length ≤ 1000 ∧
  ∀ H' p kvo, Same H H' → H p = none → H' p = some (.dK kvo) → OnOk r1 r2 t kvb kvo → Q (.ref p) H'
theorem c_onward_places (T : Facts K mg) : C8.Cal P w K mg base 1 "onward_places" (spOnward K) [] := by
  refine cal T.d_onward_places sc_onward_places (fun vs H Q E h => ?_) (fun f cdv A outer s H vs Q E hr h => ?_)
  · obtain ⟨t, pl, b, r1, r2, ps, kvb, rfl, _⟩ := h
    rfl
  · obtain ⟨t, pl, b, r1, r2, ps, kvb, rfl, hpl, pok, hend, hb, hl, q⟩ := h
    refine ⟨_, (pss_cons (ps_set (i := 3) sc_onward_places.nd rfl (Or.inl rfl) pe_dnewK)
      (pss_cons (ps_dput (hu_of hr) (pv 3) (pe_callB call_len (by rfl) T.b_len PySem.boot_len (pa_cons (pv 0) pa_nil)) (pe_callB call_len (by rfl) T.b_len PySem.boot_len (pa_cons (pv 0) pa_nil)) rfl)
      (pss_cons (ps_for PassesOwn.never rfl (pi_revR rfl T.b_reversed (prg_1 rfl T.b_range (pe_op op_sub (pe_callB call_len_seq (by rfl) T.b_len PySem.boot_len (pa_cons (pv 1) pa_nil)) pe_int))) (pg_name (i := 4) sc_onward_places.nd rfl (Or.inl rfl))
      (pss_one (ps_for PassesOwn.never rfl (pi_list (pe_slice (r := rSlL K) sl_list (pv 1) (po_some (pe_op op_add (pv 4) pe_int)) po_none)) (pg_name (i := 5) sc_onward_places.nd rfl (Or.inl rfl))
        (pss_cons (ps_if (pt_cmpR op_gt (pe_op op_sub (pv 5) (pe_ix (r := rIxL K) ix_list (pv 1) (pv 4) (fun _ _ => rfl))) (C8.pe_gc rfl T.g_LONGEST_PIECE) (nomark _))
          (pss_one ps_break)
          pss_nil)
          (pss_one (ps_if (PW.pt (pw_and (pt_cmp (pc_din (hu_of hr) (pv 5) (pv 3))) (pw_and1 (pt_cmp (pc_dnotin (hu_of hr) (pe_slice (r := rSlS) sl_str (pv 0) (po_some (pe_ix (r := rIxL K) ix_list (pv 1) (pv 4) (fun _ _ => rfl))) (po_some (pv 5))) (pv 2))))))
          (pss_cons (ps_dput (hu_of hr) (pv 3) (pe_ix (r := rIxL K) ix_list (pv 1) (pv 4) (fun _ _ => rfl)) (pv 5) rfl)
            (pss_one ps_break))
          pss_nil))))))
      (pss_one (ps_ret (pv 3)))))), ?_⟩
    refine fun p np => ?_
    have hp1 : 1 ≤ ps.length := by
      have := pok.head
      cases ps with
      | nil => simp at this
      | cons a l => exact Nat.succ_le_succ (Nat.zero_le _)
    have hp2 := pok.len
    refine ⟨_, rfl, _, t.length, rfl, ⟨small (by rw [S_len]; omega), (S_len t).symm⟩, ?_⟩
    refine ⟨_, rfl, _, rfl, _, t.length, rfl, ⟨small (by rw [S_len]; omega), (S_len t).symm⟩, ?_⟩
    refine ⟨p, _, rfl, DPut.k (k := Sum.inl (t.length : Int)) upd_same (by decide), ?_⟩
    have s1 : Same H (upd (upd H p (.dK [])) p (.dK (putK [] (Sum.inl (t.length : Int)) (.int (t.length : Int))))) := same_mut (same_new np) np
    have ok1 : OnOk r1 r2 t kvb (putK [] (Sum.inl (t.length : Int)) (.int (t.length : Int))) := by
      intro k v hv
      rw [valV_put] at hv
      by_cases e : k = Sum.inl (t.length : Int)
      · rw [if_pos e] at hv
        exact ⟨t.length, t.length, e, (Option.some.inj hv).symm, hend, .inl rfl⟩
      · rw [if_neg e] at hv
        cases hv
    -- for k in reversed(range(len(places) - 1))
    refine ⟨_, rfl, pl, _, rfl, .inl (s1.seq hpl), _, _, rfl, rfl, _, rfl, ?_⟩
    have hlen : ((natsV ps).length : Int) = (ps.length : Int) := by rw [List.length_map]
    rw [hlen]
    have hnn : ((ps.length : Int) - 1 - 0).toNat = ps.length - 1 := by omega
    refine ⟨by omega, by omega, by omega, by omega, ?_⟩
    rw [hnn]
    refine for_it walk_rangeC (fun i σ H' => ∃ y4 y5 kvo, σ = [some (tv t), some (.ref pl), some (.ref b), some (.ref p), y4, y5] ∧ Same H H' ∧ H' p = some (.dK kvo) ∧ OnOk r1 r2 t kvb kvo ∧ kvo.length ≤ 1 + i)
      ⟨none, none, _, rfl, s1, upd_same, ok1, Nat.le_refl _⟩ (fun _ _ _ _ _ => trivial) (fun i x σ H' H'' hlt pp y => ?_) (fun σ H' pp => ?_)
    · obtain ⟨y4, y5, kvo, rfl, sm, ep, on, hkl⟩ := pp
      obtain ⟨rfl, ex⟩ := y
      have ex2 : x = .int ((ps.length - 2 - i : Nat) : Int) := ex.trans (congrArg V.int (by omega))
      generalize hkk : ps.length - 2 - i = kk at ex2
      subst ex2
      have hk1 : kk < ps.length := by omega
      have ga : ps[kk]? = some ps[kk] := List.getElem?_eq_getElem hk1
      generalize hA : ps[kk] = a at ga
      have hEa : Even (wOf r1) (wOf r2) t a := pok.even a (List.mem_of_getElem? ga)
      refine ⟨_, rfl, _, rfl, _, _, rfl, rfl, _, rfl, pl, _, rfl, sm.seq hpl, fun c nc => ?_⟩
      rw [show cutV (natsV ps) (some ((kk : Int) + 1)) none = (natsV ps).drop (kk + 1) from cutV_from _ (kk + 1)]
      have sc : Same H'' (upd H'' c (.lst ((natsV ps).drop (kk + 1)))) := same_new nc
      have ncp : p ≠ c := ne_of_none ep nc
      refine ⟨c, rfl, ⟨_, lst_of upd_same⟩, ?_⟩
      refine for_it (walk_list (xs := (natsV ps).drop (kk + 1))) (fun j σ H' => ∃ y5, σ = [some (tv t), some (.ref pl), some (.ref b), some (.ref p), some (.int (kk : Int)), y5] ∧ Same H H' ∧ H' c = some (.lst ((natsV ps).drop (kk + 1))) ∧ H' p = some (.dK kvo))
        ⟨_, rfl, sm.trans sc, upd_same, sc _ _ ep⟩ (fun j σ H' _ pp => ?_) (fun j x σ H3 H4 hj pp y => ?_) (fun σ H3 pp => ?_)
      · obtain ⟨_, _, _, ec, _⟩ := pp
        exact lst_of ec
      · obtain ⟨y5, rfl, sm3, ec, ep3⟩ := pp
        obtain ⟨rfl, hx⟩ := y
        rw [List.getElem?_drop, List.getElem?_map, Option.map_eq_some_iff] at hx
        obtain ⟨qq, hq, rfl⟩ := hx
        have hEq : Even (wOf r1) (wOf r2) t qq := pok.even qq (List.mem_of_getElem? hq)
        have haq : a < qq := by
          obtain ⟨h1, h2⟩ := List.getElem?_eq_some_iff.mp hq
          have := (List.pairwise_iff_getElem.mp pok.asc) kk (kk + 1 + j) hk1 h1 (by omega)
          rw [hA, h2] at this
          exact this
        have hEq1 := hEq.1
        refine ⟨_, rfl, _, rfl, _, rfl, pl, _, _, _, rfl, rfl, sm3.seq hpl, natsV_at rfl ga, _, _, rfl, rfl, _, _, rfl, rfl, _, rfl, ite2 (fun e => ?_) (fun e => ?_)⟩
        · exact ⟨_, _, kvo, rfl, sm3, ep3, on, by omega⟩
        have h40 : qq ≤ a + 40 := by
          simp at e
          omega
        refine ⟨_, rfl, _, rfl, p, _, rfl, dget_rd (k := Sum.inl (qq : Int)) (.inl ep3) rfl, _, rfl, ite2 (fun e1 => ?_) (fun e1 => ?_)⟩
        · refine ⟨_, rfl, _, rfl, _, rfl, pl, _, _, _, rfl, rfl, sm3.seq hpl, natsV_at rfl ga, _, rfl, _, rfl, _, rfl, _, rfl, small (by rw [S_len]; omega), ?_⟩
          rw [cutS_nat]
          refine ⟨_, rfl, b, _, rfl, dget_rd (k := Sum.inr (S (sub t a qq))) (same_rd sm3 hb) rfl, _, rfl, ite2 (fun e2 => ?_) (fun e2 => ?_)⟩
          · have hnb : valV kvb (Sum.inr (S (sub t a qq))) = none := by
              cases hh : valV kvb (Sum.inr (S (sub t a qq))) with
              | none => rfl
              | some v => rw [hh] at e2; simp at e2
            refine ⟨_, rfl, _, rfl, _, rfl, _, rfl, pl, _, _, _, rfl, rfl, sm3.seq hpl, natsV_at rfl ga, p, _, rfl, DPut.k (k := Sum.inl (a : Int)) ep3 (small' (by omega)), ?_⟩
            refine ⟨_, _, _, rfl, same_mut sm3 np, upd_same, on.put hEa hEq haq h40 e1 hnb, ?_⟩
            have := length_putK kvo (Sum.inl (a : Int)) (.int (qq : Int))
            omega
          · exact ⟨_, rfl, sm3, ec, ep3⟩
        · exact ⟨_, rfl, sm3, ec, ep3⟩
      · obtain ⟨y5, rfl, sm3, ec, ep3⟩ := pp
        exact ⟨_, _, kvo, rfl, sm3, ep3, on, by omega⟩
    · obtain ⟨y4, y5, kvo, rfl, sm, ep, on, hkl⟩ := pp
      exact ⟨_, rfl, q H' p kvo sm np ep on⟩
/-! ### cut -/
abbrev txV (ts : List Tx) : List V := ts.map tv
structure PcOk (r1 r2 : Rls) (kvb : List (Key × V)) (u : Tx) : Prop where
  ne : u ≠ []
  len : u.length ≤ 40
  turn : tby (wOf r1) u = tby (wOf r2) u
  free : valV kvb (Sum.inr (S u)) = none
structure CutOk (r1 r2 : Rls) (t : Tx) (kvb : List (Key × V)) (ts : List Tx) : Prop where
  flat : ts.flatten = t
  pc : ∀ u ∈ ts, PcOk r1 r2 kvb u
  len : ts.length ≤ t.length
def spCut (K : PySem.W.Frag) : Sp := fun vs H Q _ => ∃ (d1 d2 : Addr) (t : Tx) (b : Addr) (r1 r2 : Rls) (kvb : List (Key × V)), vs = [.ref d1, .ref d2, tv t, .ref b] ∧ Rd H d1 (.dK (wordsKV r1)) ∧ Rd H d2 (.dK (wordsKV r2)) ∧ RlsOk r1 ∧ RlsOk r2 ∧ t.length ≤ 1000 ∧
  (∀ c ∈ t, c ∈ keysOf r1) ∧ (∀ c ∈ t, c ∈ keysOf r2) ∧ Rd H b (.dK kvb) ∧ (∀ H', Same H H' → Q .non H') ∧
  ∀ H' p ts, Same H H' → H p = none → H' p = some (.lst (txV ts)) → CutOk r1 r2 t kvb ts → Q (.ref p) H'
theorem c_cut (T : Facts K mg) : C8.Cal P w K mg base 2 "cut" (spCut K) [] := by
  refine cal T.d_cut sc_cut (fun vs H Q E h => ?_) (fun f cdv A outer s H vs Q E hr h => ?_)
  · obtain ⟨d1, d2, t, b, r1, r2, kvb, rfl, _⟩ := h
    rfl
  · obtain ⟨d1, d2, t, b, r1, r2, kvb, rfl, hd1, hd2, o1, o2, hl, m1, m2, hb, qn, q⟩ := h
    refine ⟨_, (pss_cons (ps_set (i := 4) sc_cut.nd rfl (Or.inl rfl) (C8.pe_c (c_even_places T) hr (by decide) rfl (pa_cons (pv 0) (pa_cons (pv 1) (pa_cons (pv 2) pa_nil)))))
      (pss_cons (ps_if (pt_cmpR op_ne (pe_ix (r := rIxL K) ix_list (pv 4) (pe_un un_neg pe_int) (fun _ _ => rfl)) (pe_callB call_len (by rfl) T.b_len PySem.boot_len (pa_cons (pv 2) pa_nil)) (nomark _))
      (pss_one (ps_ret pe_non))
      pss_nil)
      (pss_cons (ps_set (i := 5) sc_cut.nd rfl (Or.inl rfl) (C8.pe_c (c_onward_places T) hr (by decide) rfl (pa_cons (pv 2) (pa_cons (pv 4) (pa_cons (pv 3) pa_nil)))))
      (pss_cons (ps_if (pt_cmp (pc_dnotin (hu_of hr) pe_int (pv 5)))
      (pss_one (ps_ret pe_non))
      pss_nil)
      (pss_cons (ps_set (i := 6) sc_cut.nd rfl (Or.inl rfl) (pe_lst pa_nil))
      (pss_cons (ps_set (i := 7) sc_cut.nd rfl (Or.inl rfl) pe_int)
      (pss_cons (ps_while PassesOwn.never (pt_cmpR op_lt (pv 7) (pe_callB call_len (by rfl) T.b_len PySem.boot_len (pa_cons (pv 2) pa_nil)) (nomark _))
      (pss_cons (ps_expr (pe_bm PySem.F.plainAttrs_list PySem.F.slot_list_append PySem.F.type_list_append mt_append (pv 6) (pa_cons (pe_slice (r := rSlS) sl_str (pv 2) (po_some (pv 7)) (po_some (pe_dget (hu_of hr) (pv 5) (pv 7) (fun _ _ => rfl)))) pa_nil)))
        (pss_one (ps_set (i := 7) sc_cut.nd rfl (Or.inl rfl) (pe_dget (hu_of hr) (pv 5) (pv 7) (fun _ _ => rfl))))))
      (pss_one (ps_ret (pv 6)))))))))), ?_⟩
    refine ⟨_, rfl, _, rfl, _, rfl, d1, d2, t, r1, r2, rfl, hd1, hd2, o1, o2, hl, m1, m2, fun H1 pl ps s1 n1 e1 pok => ?_⟩
    have hne : ps ≠ [] := by
      have := pok.head
      intro e
      subst e
      simp at this
    have hps : ps = ps.dropLast ++ [ps.getLast hne] := (List.dropLast_concat_getLast hne).symm
    have hlast : atI (natsV ps) (-1) = some (.int (ps.getLast hne : Int)) := by
      have : natsV ps = natsV ps.dropLast ++ [.int (ps.getLast hne : Int)] := by
        conv => lhs; rw [hps]
        rw [natsV, List.map_append]
        rfl
      rw [this]
      exact atI_last _ _
    refine ⟨_, rfl, 1, rfl, pl, _, _, _, rfl, rfl, lst_of e1, hlast, ?_⟩
    refine ⟨_, rfl, _, t.length, rfl, ⟨small (by rw [S_len]; omega), (S_len t).symm⟩, rfl, _, rfl, ite2 (fun e => ?_) (fun e => ?_)⟩
    · exact qn H1 s1
    have elast : ps.getLast hne = t.length := by
      simp at e
      omega
    have hEnd : Even (wOf r1) (wOf r2) t t.length := by
      have := pok.even _ (List.getLast_mem hne)
      rw [elast] at this
      exact this
    refine ⟨_, rfl, _, rfl, _, rfl, t, pl, b, r1, r2, ps, kvb, rfl, lst_of e1, pok, hEnd, same_rd s1 hb, hl, fun H2 on kvo s2 n2 e2 onok => ?_⟩
    have s02 := s1.trans s2
    refine ⟨_, rfl, on, _, rfl, dget_rd (k := Sum.inl 0) (.inl e2) rfl, _, rfl, ite2 (fun e0 => ?_) (fun e0 => ?_)⟩
    · exact qn H2 s02
    have h0 : (valV kvo (Sum.inl ((0 : Nat) : Int))).isSome = true := by
      show (valV kvo (Sum.inl 0)).isSome = true
      cases hh : (valV kvo (Sum.inl 0)).isSome with
      | true => rfl
      | false => rw [hh] at e0; exact absurd rfl e0
    refine ⟨Nat.zero_le _, fun fo nf => ?_⟩
    have nf0 : H fo = none := s02.free nf
    refine ⟨fun m σ H' => ∃ (at' : Nat) (ts : List Tx), σ = [some (.ref d1), some (.ref d2), some (tv t), some (.ref b), some (.ref pl), some (.ref on), some (.ref fo), some (.int (at' : Int))] ∧ m = t.length - at' ∧ Same H2 H' ∧ H' fo = some (.lst (txV ts)) ∧
        at' ≤ t.length ∧ Even (wOf r1) (wOf r2) t at' ∧ (valV kvo (Sum.inl (at' : Int))).isSome = true ∧ ts.flatten = t.take at' ∧ (∀ u ∈ ts, PcOk r1 r2 kvb u) ∧ ts.length ≤ at',
      ⟨_, 0, [], rfl, rfl, same_new nf, upd_same, Nat.zero_le _, ⟨Nat.zero_le _, rfl⟩, h0, rfl, fun u hu => absurd hu (by simp), Nat.le_refl _⟩, fun m σ H' hW => ?_⟩
    obtain ⟨at', ts, rfl, rfl, sm, ef, hat, hE, hsome, hflat, hpc, hlen⟩ := hW
    refine ⟨_, rfl, _, rfl, _, t.length, rfl, ⟨small (by rw [S_len]; omega), (S_len t).symm⟩, _, _, rfl, rfl, _, rfl, ite2 (fun e => ?_) (fun e => ?_)⟩
    · have hlt : at' < t.length := by
        have := of_decide_eq_true e
        omega
      obtain ⟨v, hv⟩ := Option.isSome_iff_exists.mp hsome
      obtain ⟨a, qq, ea, rfl, hEa, hor⟩ := onok _ _ hv
      have ea2 : a = at' := by
        have := Sum.inl.inj ea
        omega
      subst ea2
      rcases hor with hor | ⟨g1, g2, g3, g4, g5⟩
      · omega
      have hq := g3.1
      refine ⟨_, fun _ _ h => h, ?_⟩
      refine ⟨_, rfl, .inl ⟨rfl, _, lst_of ef⟩, _, rfl, _, rfl, _, rfl, _, rfl, _, rfl, on, _, rfl, dget_rd (k := Sum.inl (a : Int)) (.inl (sm _ _ e2)) hv, _, rfl, _, rfl, small (by rw [S_len]; omega), ?_⟩
      refine ⟨fo, _, _, rfl, rfl, ef, ?_, ?_⟩
      · rw [List.length_map]
        exact small' (by omega)
      refine ⟨_, rfl, _, rfl, on, _, rfl, dget_rd (k := Sum.inl (a : Int)) (.inl (same_mut sm nf _ _ e2)) hv, ?_⟩
      refine ⟨t.length - qq, by omega, qq, ts ++ [sub t a qq], rfl, rfl, same_mut sm nf, ?_, hq, g3, g4, ?_, ?_, ?_⟩
      · rw [upd_same, cutS_nat, txV, txV, List.map_append]
        rfl
      · rw [List.flatten_append, hflat, sub_take (by omega : a ≤ qq)]
        simp
      · intro u hu
        rcases List.mem_append.mp hu with h | h
        · exact hpc u h
        · rw [List.mem_singleton.mp h]
          have hsl := sub_len (t := t) (by omega : a ≤ qq) hq
          refine ⟨fun h => ?_, by omega, even_sub hEa g3 (by omega), g5⟩
          rw [h] at hsl
          simp at hsl
          omega
      · rw [List.length_append]
        show _ + 1 ≤ _
        omega
    · have hge : at' = t.length := by
        simp at e
        omega
      subst hge
      rw [List.take_length] at hflat
      exact ⟨_, rfl, q H' fo ts (s02.trans sm) nf0 ef ⟨hflat, hpc, hlen⟩⟩
/-! ### added -/
theorem inV_tx (u : Tx) (ts : List Tx) : inV (tv u) (txV ts) = decide (u ∈ ts) := by
  unfold inV
  rw [List.any_map]
  induction ts with
  | nil => rfl
  | cons a ts ih =>
    rw [List.any_cons, ih]
    have h1 : ((fun y => eqV y (tv u)) ∘ tv) a = decide (a = u) := by
      show (S a == S u) = decide (a = u)
      by_cases h : a = u
      · subst h
        rw [decide_eq_true rfl]
        exact beq_self_eq_true _
      · rw [decide_eq_false h]
        exact beq_eq_false_iff_ne.mpr fun e => h (S_inj e)
    rw [h1]
    by_cases h : a = u
    · subst h
      simp
    · have : ¬ u = a := fun e => h e.symm
      simp [h, this]
def spAdded (K : PySem.W.Frag) : Sp := fun vs H Q _ => ∃ (p1 p2 : Addr) (ts us : List Tx), vs = [.ref p1, .ref p2] ∧ SqL K H p1 (txV ts) ∧ SqL K H p2 (txV us) ∧ ts.length + us.length ≤ 10000 ∧
  ∀ H' p more, Same H H' → H p = none → H' p = some (.lst (txV (ts ++ more))) → (∀ u ∈ more, u ∈ us) → (∀ u ∈ us, u ∈ ts ++ more) → more.length ≤ us.length → Q (.ref p) H'
theorem c_added (T : Facts K mg) : C8.Cal P w K mg base 1 "added" (spAdded K) [] := by
  refine cal T.d_added sc_added (fun vs H Q E h => ?_) (fun f cdv A outer s H vs Q E hr h => ?_)
  · obtain ⟨p1, p2, ts, us, rfl, _⟩ := h
    rfl
  · obtain ⟨p1, p2, ts, us, rfl, h1, h2, hl, q⟩ := h
    refine ⟨_, (pss_cons (ps_set (i := 2) sc_added.nd rfl (Or.inl rfl) (pe_callTy call_list_of (by rfl) T.b_list (by decide +kernel) (pa_cons (pv 0) pa_nil)))
      (pss_cons (ps_for PassesOwn.never rfl (pi_list (pv 1)) (pg_name (i := 3) sc_added.nd rfl (Or.inl rfl))
      (pss_one (ps_if (pt_cmpR op_notIn_seq (pv 3) (pv 2) rfl)
        (pss_one (ps_expr (pe_bm PySem.F.plainAttrs_list PySem.F.slot_list_append PySem.F.type_list_append mt_append (pv 2) (pa_cons (pv 3) pa_nil))))
        pss_nil)))
      (pss_one (ps_ret (pv 2))))), ?_⟩
    refine ⟨_, rfl, p1, _, rfl, .inl h1, fun p np => ?_⟩
    refine ⟨_, rfl, p2, rfl, ⟨_, (same_new np : Same H _).seq h2⟩, ?_⟩
    refine for_it (walk_list (xs := txV us)) (fun i σ H' => ∃ y3 more, σ = [some (.ref p1), some (.ref p2), some (.ref p), y3] ∧ Same H H' ∧ H' p = some (.lst (txV (ts ++ more))) ∧ (∀ u ∈ more, u ∈ us) ∧ (∀ u ∈ us.take i, u ∈ ts ++ more) ∧ more.length ≤ i)
      ⟨none, [], rfl, same_new np, by rw [upd_same, List.append_nil], fun u hu => absurd hu (by simp), fun u hu => absurd hu (by simp), Nat.le_refl _⟩ (fun i σ H' _ pp => ?_) (fun i x σ H' H'' hlt pp y => ?_) (fun σ H' pp => ?_)
    · obtain ⟨_, _, _, sm, _⟩ := pp
      exact sm.seq h2
    · obtain ⟨y3, more, rfl, sm, ep, ha, hb, hml⟩ := pp
      obtain ⟨rfl, hx⟩ := y
      rw [List.getElem?_map, Option.map_eq_some_iff] at hx
      obtain ⟨u, hu, rfl⟩ := hx
      rw [List.length_map] at hlt
      have humem := List.mem_of_getElem? hu
      refine ⟨_, rfl, _, rfl, p, _, rfl, .inl (lst_of ep), rfl, ?_, _, rfl, ite2 (fun e => ?_) (fun e => ?_)⟩
      · rw [List.all_map]
        exact List.all_eq_true.mpr fun _ _ => rfl
      · refine ⟨_, rfl, .inl ⟨rfl, _, lst_of ep⟩, _, rfl, p, _, _, rfl, rfl, ep, ?_, ?_⟩
        · rw [List.length_map, List.length_append]
          exact small' (by omega)
        · refine ⟨_, more ++ [u], rfl, same_mut sm np, ?_, ?_, ?_, ?_⟩
          · rw [upd_same, ← List.append_assoc, txV, txV, List.map_append (l₁ := ts ++ more)]
            rfl
          · intro v hv
            rcases List.mem_append.mp hv with h | h
            · exact ha v h
            · rw [List.mem_singleton.mp h]
              exact humem
          · intro v hv
            rw [List.take_add_one, hu] at hv
            rw [← List.append_assoc]
            rcases List.mem_append.mp hv with h | h
            · exact List.mem_append_left _ (hb v h)
            · exact List.mem_append_right _ h
          · rw [List.length_append]
            show _ + 1 ≤ _
            omega
      · have hin : u ∈ ts ++ more := by
          rw [if_pos rfl, inV_tx] at e
          by_cases hin : u ∈ ts ++ more
          · exact hin
          · rw [decide_eq_false hin] at e
            exact absurd rfl e
        refine ⟨_, more, rfl, sm, ep, ha, fun v hv => ?_, by omega⟩
        rw [List.take_add_one, hu] at hv
        rcases List.mem_append.mp hv with h | h
        · exact hb v h
        · have : v = u := by simpa using h
          rw [this]
          exact hin
    · obtain ⟨y3, more, rfl, sm, ep, ha, hb, hml⟩ := pp
      rw [List.length_map] at hb hml
      rw [List.take_length] at hb
      exact ⟨_, rfl, q H' p more sm np ep ha hb hml⟩
end
end Lg
/-! pieces.py walked: gone_through, rows_alike -/
namespace Lg
open PySem PySem.Spec PyProof.Rows L2
theorem ps_nox {X : Cx} {st : Stmt} {t : TS} (h : PS X.nox st t) : PS X st t := ⟨fun pins s σ H D I hw =>
  wpAny_mono (h.run pins s σ H D (I.wish _) hw) (fun _ _ q => q.unwish) fun _ _ z => False.elim z⟩
/-- the class TooMany as it stands -/
structure TooF (K : PySem.W.Frag) (mg : Str → Option Value) (C : Addr) : Prop where
  gT : mg "TooMany" = some (.ref C)
  xT : PySem.W.excIn K C [.type "ValueError", .type "Exception", .type "BaseException", .type "object"] "ValueError.__new__" = true
  kT : PySem.W.keepIn K (.ref C) = true
  bT : PySem.W.subIn K (.ref C) (.type "BaseException") = some true
  tT : PySem.W.typeIn K (.ref C) = some (.type "type")
  eT : PySem.W.exmOne K (.ref C) (.ref C) = some true
/-- a def of the module that may raise -/
structure CalX (P : Program) (w : World) (K : PySem.W.Frag) (mg : Str → Option Value) (base : Heap) (k : Nat) (x : Str) (sp : Sp) : Prop where
  ex : ∃ (f : Addr) (fd : FuncData) (ps : List Str), FnOk P w K mg base (L2.CX P w) k f fd ps sp ∧ mg x = some (.ref f) ∧ PySem.W.keepIn K (.ref f) = true ∧ Binds K fd ps []
section
variable {X : Cx} {k j : Nat} {x : Str} {sp : Sp} {p pos : Pos} {e : Expr} {es : List Expr} {t : TA} {E : XK}
theorem pe_cx (c : CalX X.prog X.w X.K X.mg X.base k x sp) (hr : Room j X.A) (hk : k ≤ j) (hg : Gl X x) (hx : Passes (L2.CX X.prog X.w) X E) (ha : PA X (e :: es) t)
    (hdb : (x == ("__debug__" : Str)) = false := by decide) (he : starEach (e :: es) X.env = (false, eval e X.env) :: starEach es X.env := by rfl) (hpl : (backTo pos (starEach es X.env)).any (·.1) = false := by rfl) :
    PE X (.Call (.Name x p) (e :: es) [] pos) (tCall sp [] E t) := by
  obtain ⟨f, fd, ps, F, hm, kp, b⟩ := c.ex
  exact pe_call F (hr.mono hk) hg hm kp b .nil hx ha hdb he hpl
theorem pe_cxS {E : L2.St → XK} (c : CalX X.prog X.w X.K X.mg X.base k x sp) (hr : Room j X.A) (hk : k ≤ j) (hg : Gl X x) (hx : ∀ σ, PassesAt (L2.CX X.prog X.w) X σ (E σ)) (ha : PA X (e :: es) t)
    (hdb : (x == ("__debug__" : Str)) = false := by decide) (he : starEach (e :: es) X.env = (false, eval e X.env) :: starEach es X.env := by rfl) (hpl : (backTo pos (starEach es X.env)).any (·.1) = false := by rfl) :
    PE X (.Call (.Name x p) (e :: es) [] pos) (tCallS sp E t) := by
  obtain ⟨f, fd, ps, F, hm, kp, b⟩ := c.ex
  exact pe_callS F (hr.mono hk) hg hm kp b hx ha hdb he hpl
end
section
variable {P : Program} {w : World} {K : PySem.W.Frag} {mg : Str → Option Value} {base : Heap}
theorem calX {x : Str} {st : Stmt} {N ps : List Str} {k : Nat} {sp : Sp} (D : DefAt K mg x st ps) (S : FnScope N ps (defScope st)) (len : ∀ vs H Q E, sp vs H Q E → vs.length = ps.length)
    (hbody : ∀ (f : Addr) (cdv : Value) (A : Around) (outer : List Env) (s : Shared) (H : Hp) (vs : List V) (Q : VK) (E : XK), Room k (A.deeper (envOfC x (defScope st) s.heap.objs.size f cdv)) → sp vs H Q E →
      ∃ t, PSs (cxOf (L2.CX P w) P w K mg base N x (defScope st) f cdv A outer s H E) (defBody st) t ∧ t { nx := fun _ H' => Q .non H', rt := Q } (start N vs) H) : CalX P w K mg base (k + 1) x sp := by
  obtain ⟨f, fd, F, m, b⟩ := D.ex
  exact ⟨f, fd, ps, F.okX S len (hbody f), m, F.kp, b⟩
/-! ### gone_through -/
structure PieceOk (r1 r2 : Rls) (u : Tx) : Prop where
  ne : u ≠ []
  len : u.length ≤ 40
  turn : tby (wOf r1) u = tby (wOf r2) u
  mem : ∀ c ∈ u, c ∈ keysOf r1
structure GoneOk (r1 r2 : Rls) (first : Tx) (P : List Tx) : Prop where
  few : P.length ≤ 30
  cat : Cat P first
  pc : ∀ u ∈ P, PieceOk r1 r2 u
  turn : ∀ u ∈ P, Cat P (tby (wOf r1) u)
def spGone (K : PySem.W.Frag) (C : Addr) : Sp := fun vs H Q E => ∃ (d1 d2 : Addr) (t : Tx) (b : Addr) (r1 r2 : Rls) (kvb : List (Key × V)), vs = [.ref d1, .ref d2, tv t, .ref b] ∧ Rd H d1 (.dK (wordsKV r1)) ∧ Rd H d2 (.dK (wordsKV r2)) ∧ RlsOk r1 ∧ RlsOk r2 ∧ keysOf r2 = keysOf r1 ∧ t.length ≤ 12 ∧
  (∀ c ∈ t, c ∈ keysOf r1) ∧ Rd H b (.dK kvb) ∧ (∀ H', Same H H' → E (.ref C) none H') ∧
  (∀ H' q p P, Same H H' → H' q = some (.tup [.ref p, .non]) → H' p = some (.lst (txV P)) → GoneOk r1 r2 t P → Q (.ref q) H') ∧
  (∀ H' q p, Same H H' → H' q = some (.tup [.ref p, tv []]) → Q (.ref q) H') ∧
  (∀ H' q p u, Same H H' → H' q = some (.tup [.ref p, tv u]) → u ≠ [] → valV kvb (Sum.inr (S u)) = none → Q (.ref q) H')
theorem cat_of {ts : List Tx} {P : List Tx} {t : Tx} (h : ts.flatten = t) (s : ∀ u ∈ ts, u ∈ P) : Cat P t := ⟨ts, s, h⟩
theorem flat_mem {ts : List Tx} {u : Tx} (h : u ∈ ts) : ∀ c ∈ u, c ∈ ts.flatten := fun c hc => List.mem_flatten.mpr ⟨u, h, hc⟩
theorem c_gone_through {C : Addr} (T : Facts K mg) (TM : TooF K mg C) : CalX P w K mg base 3 "gone_through" (spGone K C) := by
  refine calX T.d_gone_through sc_gone_through (fun vs H Q E h => ?_) (fun f cdv A outer s H vs Q E hr h => ?_)
  · obtain ⟨d1, d2, t, b, r1, r2, kvb, rfl, _⟩ := h
    rfl
  · obtain ⟨d1, d2, t, b, r1, r2, kvb, rfl, hd1, hd2, o1, o2, hk, hl, hm, hb, qE, qG, qF, qU⟩ := h
    refine ⟨_, (pss_cons (ps_set (i := 4) sc_gone_through.nd rfl (Or.inl rfl) (C8.pe_c (c_cut T) hr (by decide) rfl (pa_cons (pv 0) (pa_cons (pv 1) (pa_cons (pv 2) (pa_cons (pv 3) pa_nil))))))
      (pss_cons (ps_if (pt_cmpR op_isN (pv 4) pe_non (nomark _))
      (pss_one (ps_ret (pe_tup (pa_cons (pe_lst pa_nil) (pa_cons pe_str pa_nil)))))
      pss_nil)
      (pss_cons (ps_set (i := 4) sc_gone_through.nd rfl (Or.inl rfl) (C8.pe_c (c_added T) hr (by decide) rfl (pa_cons (pe_lst pa_nil) (pa_cons (pv 4) pa_nil))))
      (pss_cons (ps_set (i := 5) sc_gone_through.nd rfl (Or.inl rfl) pe_int)
      (pss_cons (ps_nox (ps_while PassesOwn.never (PW.pt (pw_and (pt_cmpR op_lt (pv 5) (pe_callB call_len_seq (by rfl) T.b_len PySem.boot_len (pa_cons (pv 4) pa_nil)) (nomark _)) (pw_and1 (pt_cmpR op_le (pe_callB call_len_seq (by rfl) T.b_len PySem.boot_len (pa_cons (pv 4) pa_nil)) (C8.pe_gc rfl T.g_MOST_PIECES) (nomark _)))))
      (pss_cons (ps_set (i := 6) sc_gone_through.nd rfl (Or.inl rfl) (C8.pe_c (c_cut T) hr (by decide) rfl (pa_cons (pv 0) (pa_cons (pv 1) (pa_cons (C8.pe_c (c_turned_by T) hr (by decide) rfl (pa_cons (pv 0) (pa_cons (pe_ix (r := rIxL K) ix_list (pv 4) (pv 5) (fun _ _ => rfl)) pa_nil))) (pa_cons (pv 3) pa_nil))))))
        (pss_cons (ps_if (pt_cmpR op_isN (pv 6) pe_non (nomark _))
        (pss_one (ps_ret (pe_tup (pa_cons (pe_lst pa_nil) (pa_cons (pe_ix (r := rIxL K) ix_list (pv 4) (pv 5) (fun _ _ => rfl)) pa_nil)))))
        pss_nil)
        (pss_cons (ps_set (i := 4) sc_gone_through.nd rfl (Or.inl rfl) (C8.pe_c (c_added T) hr (by decide) rfl (pa_cons (pv 4) (pa_cons (pv 6) pa_nil))))
        (pss_one (ps_set (i := 5) sc_gone_through.nd rfl (Or.inl rfl) (pe_op op_add (pv 5) pe_int))))))))
      (pss_cons (ps_if (pt_cmpR op_gt (pe_callB call_len_seq (by rfl) T.b_len PySem.boot_len (pa_cons (pv 4) pa_nil)) (C8.pe_gc rfl T.g_MOST_PIECES) (nomark _))
      (pss_one (ps_raise rfl (takes_of rfl rfl rfl rfl) (pmk_own PySem.F.excBase_ValueError TM.xT TM.gT TM.kT (raises_own TM.bT TM.tT) (by exact rfl))))
      pss_nil)
      (pss_one (ps_ret (pe_tup (pa_cons (pv 4) (pa_cons pe_non pa_nil))))))))))), ?_⟩
    have m2 : ∀ {u : Tx}, (∀ c ∈ u, c ∈ keysOf r1) → ∀ c ∈ u, c ∈ keysOf r2 := fun h => by rw [hk]; exact h
    -- pieces = cut(words, others, first, barred)
    refine ⟨_, rfl, _, rfl, _, rfl, _, rfl, d1, d2, t, b, r1, r2, kvb, rfl, hd1, hd2, o1, o2, by omega, hm, m2 hm, hb, fun H1 s1 => ?_, fun H1 p ts s1 np ep cok => ?_⟩
    · refine ⟨_, rfl, rfl, _, rfl, iteT ?_⟩
      refine ⟨Nat.zero_le _, fun p np => ⟨by show 2 ≤ sizeLine; decide, fun q nq => ?_⟩⟩
      exact qF _ q p (s1.trans ((same_new np).trans (same_new nq))) upd_same
    refine ⟨_, rfl, rfl, _, rfl, iteF ?_⟩
    -- pieces = added([], pieces)
    refine ⟨Nat.zero_le _, fun e ne => ⟨_, rfl, e, p, [], ts, rfl, lst_of upd_same, lst_of ((same_new ne) _ _ ep), by have := cok.len; simp; omega, fun H2 p2 more s2 np2 ep2 hmo hts hml => ?_⟩⟩
    have s02 : Same H H2 := s1.trans ((same_new ne).trans s2)
    rw [List.nil_append] at ep2 hts
    have hpc0 : ∀ u ∈ more, PieceOk r1 r2 u := fun u hu => by
      have := cok.pc u (hmo u hu)
      refine ⟨this.ne, this.len, this.turn, fun c hc => hm c ?_⟩
      rw [← cok.flat]
      exact flat_mem (hmo u hu) c hc
    have hfree0 : ∀ u ∈ more, valV kvb (Sum.inr (S u)) = none := fun u hu => (cok.pc u (hmo u hu)).free
    have np20 : H p2 = none := s1.free ((same_new ne : Same H1 _).free np2)
    -- the loop
    refine ⟨fun m σ H' => ∃ (p : Addr) (P : List Tx) (at' : Nat) (y6 : Option V), σ = [some (.ref d1), some (.ref d2), some (tv t), some (.ref b), some (.ref p), some (.int (at' : Int)), y6] ∧ m = 31 - at' ∧ Same H H' ∧ H' p = some (.lst (txV P)) ∧ at' ≤ 30 ∧ P.length ≤ 300 ∧
        Cat P t ∧ (∀ u ∈ P, PieceOk r1 r2 u) ∧ (∀ u ∈ P, valV kvb (Sum.inr (S u)) = none) ∧ ∀ i, i < at' → ∀ u, P[i]? = some u → Cat P (tby (wOf r1) u),
      ⟨_, p2, more, 0, none, rfl, rfl, s02, ep2, Nat.zero_le _, by have := cok.len; omega, cat_of cok.flat hts, hpc0, hfree0, fun i h => absurd h (Nat.not_lt_zero _)⟩, fun m σ H' hW => ?_⟩
    obtain ⟨p, P, at', y6, rfl, rfl, sm, ep, hat, hPl, hcat, hpc, hfree, hdone⟩ := hW
    refine ⟨_, rfl, _, rfl, p, _, rfl, .inl (lst_of ep), _, _, rfl, rfl, _, rfl, ite2 (fun e1 => ?_) (fun e1 => ?_)⟩
    · have hlt : at' < P.length := by
        have := of_decide_eq_true e1
        rw [List.length_map] at this
        omega
      refine ⟨_, rfl, p, _, rfl, .inl (lst_of ep), _, _, rfl, rfl, _, rfl, ite2 (fun e2 => ?_) (fun e2 => ?_)⟩
      · have h30 : P.length ≤ 30 := by
          have := of_decide_eq_true e2
          rw [List.length_map] at this
          omega
        have hu : P[at']? = some P[at'] := List.getElem?_eq_getElem hlt
        generalize hU : P[at'] = u at hu
        have huP := List.mem_of_getElem? hu
        have hpu := hpc u huP
        have hux : (txV P)[at']? = some (tv u) := by rw [List.getElem?_map, hu]; rfl
        have hwl := o1.tlen hpu.mem
        have hpul := hpu.len
        have hwm := tby_mem o1.wmem hpu.mem
        refine ⟨_, fun _ _ h => h, ?_⟩
        refine ⟨_, rfl, _, rfl, _, rfl, _, rfl, _, rfl, p, _, _, _, rfl, rfl, lst_of ep, at_of rfl hux, d1, u, r1, rfl, same_rd sm hd1, o1, by omega, hpu.mem, fun H3 s3 => ?_⟩
        refine ⟨_, rfl, d1, d2, _, b, r1, r2, kvb, rfl, same_rd (sm.trans s3) hd1, same_rd (sm.trans s3) hd2, o1, o2, by omega, hwm, m2 hwm, same_rd (sm.trans s3) hb, fun H4 s4 => ?_, fun H4 pb ts s4 nb eb cok2 => ?_⟩
        · refine ⟨_, rfl, rfl, _, rfl, iteT ?_⟩
          refine ⟨Nat.zero_le _, fun p' np' => ?_⟩
          refine ⟨_, rfl, _, rfl, p, _, _, _, rfl, rfl, lst_of ((same_new np') _ _ (s4 _ _ (s3 _ _ ep))), at_of rfl hux, by show 2 ≤ sizeLine; decide, fun q nq => ?_⟩
          exact qU _ q p' u (((sm.trans s3).trans s4).trans ((same_new np').trans (same_new nq))) upd_same hpu.ne (hfree u huP)
        refine ⟨_, rfl, rfl, _, rfl, iteF ?_⟩
        have hcl := cok2.len
        refine ⟨_, rfl, _, rfl, p, pb, P, ts, rfl, lst_of (s4 _ _ (s3 _ _ ep)), lst_of eb, by omega, fun H5 p5 more s5 np5 ep5 hmo hts hml => ?_⟩
        refine ⟨_, rfl, _, _, rfl, rfl, ?_⟩
        have sub1 : ∀ v ∈ P, v ∈ P ++ more := fun v hv => List.mem_append_left _ hv
        refine ⟨31 - (at' + 1), by omega, p5, P ++ more, at' + 1, _, rfl, rfl, ((sm.trans s3).trans s4).trans s5, ep5, by omega, ?_, hcat.mono sub1, fun v hv => ?_, fun v hv => ?_, fun i hi v hv => ?_⟩
        · rw [List.length_append]
          omega
        · rcases List.mem_append.mp hv with h | h
          · exact hpc v h
          · have hc := cok2.pc v (hmo v h)
            refine ⟨hc.ne, hc.len, hc.turn, fun c hcv => hwm c ?_⟩
            rw [← cok2.flat]
            exact flat_mem (hmo v h) c hcv
        · rcases List.mem_append.mp hv with h | h
          · exact hfree v h
          · exact (cok2.pc v (hmo v h)).free
        · rcases Nat.lt_or_eq_of_le (Nat.le_of_lt_succ hi) with h | h
          · have hiP : i < P.length := by omega
            rw [List.getElem?_append_left hiP] at hv
            exact (hdone i h v hv).mono sub1
          · subst h
            rw [List.getElem?_append_left hlt, hu] at hv
            have : u = v := Option.some.inj hv
            subst this
            exact cat_of cok2.flat hts
      · -- too many
        refine ⟨_, rfl, p, _, rfl, .inl (lst_of ep), _, _, rfl, rfl, _, rfl, ite2 (fun e3 => qE H' sm) (fun e3 => ?_)⟩
        refine absurd ?_ e3
        refine decide_eq_true ?_
        have : ¬ ((List.length (txV P) : Int) ≤ 30) := fun h => e2 (decide_eq_true h)
        omega
    · have hge : P.length ≤ at' := by
        have : ¬ ((at' : Int) < (List.length (txV P) : Int)) := fun h => e1 (decide_eq_true h)
        rw [List.length_map] at this
        omega
      have hfin : ¬ ((30 : Int) < (List.length (txV P) : Int)) := by
        rw [List.length_map]
        omega
      refine ⟨_, rfl, p, _, rfl, .inl (lst_of ep), _, _, rfl, rfl, _, rfl, ?_⟩
      rw [decide_eq_false hfin]
      refine iteF ?_
      refine ⟨_, rfl, by show 2 ≤ sizeLine; decide, fun q nq => ?_⟩
      refine qG _ q p P (sm.trans (same_new nq)) upd_same ((same_new nq) _ _ ep) ⟨by omega, hcat, hpc, fun u hu => ?_⟩
      obtain ⟨i, hi⟩ := List.getElem?_of_mem hu
      exact hdone i (by have := (List.getElem?_eq_some_iff.mp hi).1; omega) u hi
/-! ### rows_alike -/
structure AlikeOk (r1 r2 : Rls) (f1 f2 : Tx) (P : List Tx) : Prop where
  eq : f1 = f2
  few : P.length ≤ 30
  cat : Cat P f1
  pc : ∀ u ∈ P, PieceOk r1 r2 u
  turn : ∀ u ∈ P, Cat P (tby (wOf r1) u)
def spRowsAlike (K : PySem.W.Frag) (C : Addr) : Sp := fun vs H Q E => ∃ (b1 b2 : V) (f1 f2 : Tx) (r1 r2 : Rls), vs = [b1, b2] ∧ BookAt K H b1 f1 r1 ∧ BookAt K H b2 f2 r2 ∧ RlsOk r1 ∧ RlsOk r2 ∧ keysOf r2 = keysOf r1 ∧ f1.length ≤ 12 ∧ f2.length ≤ 12 ∧ (∀ c ∈ f1, c ∈ keysOf r1) ∧ (∀ c ∈ f2, c ∈ keysOf r2) ∧
  (∀ H', Same H H' → E (.ref C) none H') ∧
  (∀ H' q n, Same H H' → H' q = some (.tup [.str "part", .int ((n : Nat) : Int)]) → EarlyOk r1 r2 f1 f2 n → Q (.ref q) H') ∧
  (∀ H' q p P, Same H H' → H' q = some (.tup [.str "alike", .ref p]) → H' p = some (.lst (txV P)) → AlikeOk r1 r2 f1 f2 P → Q (.ref q) H')
theorem perm_S {ys : List Str} {P : List Tx} (h : ys.Perm (P.map S)) : ∃ P' : List Tx, ys = P'.map S ∧ P'.Perm P := by
  refine ⟨ys.map fun z => z.cps.toList, ?_, ?_⟩
  · rw [List.map_map]
    conv => lhs; rw [← List.map_id ys]
    exact List.map_congr_left fun z _ => S_of z
  · have := h.map (fun z : Str => z.cps.toList)
    rw [List.map_map] at this
    have e : P.map ((fun z : Str => z.cps.toList) ∘ S) = P := by
      conv => rhs; rw [← List.map_id P]
      exact List.map_congr_left fun t _ => rfl
    rw [e] at this
    exact this
theorem c_rows_alike {C : Addr} (T : Facts K mg) (TM : TooF K mg C) : CalX P w K mg base 4 "rows_alike" (spRowsAlike K C) := by
  refine calX T.d_rows_alike sc_rows_alike (fun vs H Q E h => ?_) (fun f cdv A outer s H vs Q E hr h => ?_)
  · obtain ⟨b1, b2, f1, f2, r1, r2, rfl, _⟩ := h
    rfl
  · obtain ⟨b1, b2, f1, f2, r1, r2, rfl, hb1, hb2, o1, o2, hk, l1, l2, m1, m2, qE, qP, qA⟩ := h
    refine ⟨_, (pss_cons (ps_set (i := 2) sc_rows_alike.nd rfl (Or.inl rfl) (C8.pe_c (c_early_part T) hr (by decide) rfl (pa_cons (pv 0) (pa_cons (pv 1) pa_nil))))
      (pss_cons (ps_if (pt_cmpR op_notN (pv 2) pe_non (nomark _))
      (pss_one (ps_ret (pe_tup (pa_cons pe_str (pa_cons (pv 2) pa_nil)))))
      pss_nil)
      (pss_cons (ps_set (i := 3) sc_rows_alike.nd rfl (Or.inl rfl) (C8.pe_c (c_words_of T) hr (by decide) rfl (pa_cons (pv 0) pa_nil)))
      (pss_cons (ps_set (i := 4) sc_rows_alike.nd rfl (Or.inl rfl) (C8.pe_c (c_words_of T) hr (by decide) rfl (pa_cons (pv 1) pa_nil)))
      (pss_cons (ps_set (i := 5) sc_rows_alike.nd rfl (Or.inl rfl) pe_dnewK)
      (pss_cons (ps_while (passes_of rfl) (pt_cmpR op_le (pe_callB call_lenD (by rfl) T.b_len PySem.boot_len (pa_cons (pv 5) pa_nil)) (C8.pe_gc rfl T.g_MOST_BARRED) (nomark _))
      (pss_cons (ps_asg (pe_cx (c_gone_through T TM) hr (by decide) rfl (passes_call (takes_of rfl rfl rfl rfl) fun _ _ _ _ h => h) (pa_cons (pv 3) (pa_cons (pv 4) (pa_cons (pe_ix (r := rIxT K) ix_tup (pv 0) pe_int (fun _ _ => rfl)) (pa_cons (pv 5) pa_nil))))) (pg_tup rfl (pgs_cons (pg_name (i := 6) sc_rows_alike.nd rfl (Or.inl rfl)) (pgs_cons (pg_name (i := 7) sc_rows_alike.nd rfl (Or.inl rfl)) pgs_nil))))
        (pss_cons (ps_if (pt_cmpR op_isN (pv 7) pe_non (nomark _))
        (pss_one (ps_ret (pe_tup (pa_cons pe_str (pa_cons (pe_callB cr_sortedS (by rfl) T.b_sorted (by decide +kernel) (pa_cons (pv 6) pa_nil)) pa_nil)))))
        pss_nil)
        (pss_cons (ps_if (pt_cmpR op_eq (pv 7) pe_str (nomark _))
        (pss_one ps_break)
        pss_nil)
        (pss_one (ps_dput (hu_of hr) (pv 5) (pv 7) pe_bl rfl))))))
      (pss_one (ps_raise rfl (takes_of rfl rfl rfl rfl) (pmk_own PySem.F.excBase_ValueError TM.xT TM.gT TM.kT (raises_own TM.bT TM.tT) (by exact rfl)))))))))), ?_⟩
    refine ⟨_, rfl, _, rfl, b1, b2, f1, f2, r1, r2, rfl, hb1, hb2, o1, o2, l1, l2, m1, m2, fun H1 s1 => ⟨fun hf => ?_, fun n hn => ?_⟩⟩
    rotate_left
    · refine ⟨_, rfl, rfl, _, rfl, iteT ?_⟩
      exact ⟨_, rfl, by show 2 ≤ sizeLine; decide, fun q nq => qP _ q n (s1.trans (same_new nq)) upd_same hn⟩
    refine ⟨_, rfl, rfl, _, rfl, iteF ?_⟩
    refine ⟨_, rfl, b1, f1, r1, rfl, hb1.same s1, o1, fun H2 d1 s2 n2 e2 => ?_⟩
    refine ⟨_, rfl, b2, f2, r2, rfl, hb2.same (s1.trans s2), o2, fun H3 d2 s3 n3 e3 => ?_⟩
    have s03 := (s1.trans s2).trans s3
    refine fun b nb => ?_
    have nb0 : H b = none := s03.free nb
    obtain ⟨a1, t1, rfl, ha1, _⟩ := hb1
    refine ⟨fun m σ H' => ∃ (kvb : List (Key × V)) (y6 y7 : Option V), σ = [some (.ref a1), some b2, some .non, some (.ref d1), some (.ref d2), some (.ref b), y6, y7] ∧ m = 31 - kvb.length ∧ Same H3 H' ∧ H' b = some (.dK kvb),
      ⟨_, [], none, none, rfl, rfl, same_new nb, upd_same⟩, fun m σ H' hW => ?_⟩
    obtain ⟨kvb, y6, y7, rfl, rfl, sm, eb⟩ := hW
    refine ⟨_, rfl, b, kvb, rfl, eb, _, _, rfl, rfl, _, rfl, ite2 (fun e1 => ?_) (fun e1 => ?_)⟩
    · have h30 : kvb.length ≤ 30 := by
        have := of_decide_eq_true e1
        omega
      refine ⟨_, fun _ _ h => h, ?_⟩
      refine ⟨_, rfl, _, rfl, _, rfl, a1, _, 0, tv f1, rfl, rfl, same_tup (s03.trans sm) ha1, at0, _, rfl, ?_⟩
      refine ⟨d1, d2, f1, b, r1, r2, kvb, rfl, .inl (sm _ _ (s3 _ _ e2)), .inl (sm _ _ e3), o1, o2, hk, l1, m1, .inl eb, fun H4 s4 => ?_, fun H4 q p P s4 eq ep gok => ?_, fun H4 q p s4 eq => ?_, fun H4 q p u s4 eq hu hfree => ?_⟩
      · exact qE H4 ((s03.trans sm).trans s4)
      · refine ⟨q, _, rfl, tup_of eq, rfl, _, _, rfl, _, _, rfl, rfl, ?_⟩
        refine ⟨_, rfl, rfl, _, rfl, iteT ?_⟩
        have exs : txV P = (P.map S).map V.str := by
          rw [List.map_map]
          rfl
        have ep' := ep
        rw [exs] at ep'
        refine ⟨_, rfl, p, P.map S, rfl, lst_of ep', by rw [List.length_map]; have := gok.few; omega, fun ys p' perm _ np' => ?_⟩
        obtain ⟨P', rfl, pp⟩ := perm_S perm
        refine ⟨by show 2 ≤ sizeLine; decide, fun q' nq' => ?_⟩
        refine qA _ q' p' P' ((((s03.trans sm).trans s4).trans (same_new np')).trans (same_new nq')) upd_same ?_ ⟨hf, by rw [pp.length_eq]; exact gok.few, gok.cat.mono fun u hu => pp.mem_iff.mpr hu, fun u hu => gok.pc u (pp.mem_iff.mp hu), fun u hu => (gok.turn u (pp.mem_iff.mp hu)).mono fun v hv => pp.mem_iff.mpr hv⟩
        refine (same_new nq') _ _ ?_
        rw [upd_same, List.map_map]
        rfl
      · refine ⟨q, _, rfl, tup_of eq, rfl, _, _, rfl, _, _, rfl, rfl, ?_⟩
        refine ⟨_, rfl, rfl, _, rfl, iteF ?_⟩
        refine ⟨_, rfl, rfl, _, rfl, iteT ?_⟩
        exact qE H4 ((s03.trans sm).trans s4)
      · refine ⟨q, _, rfl, tup_of eq, rfl, _, _, rfl, _, _, rfl, rfl, ?_⟩
        refine ⟨_, rfl, rfl, _, rfl, iteF ?_⟩
        refine ⟨_, rfl, rfl, _, rfl, ite2 (fun e2' => ?_) (fun _ => ?_)⟩
        · have : tv u = tv [] := of_decide_eq_true e2'
          exact absurd (tv_inj this) hu
        refine ⟨_, rfl, _, rfl, b, _, rfl, DPut.k (k := Sum.inr (S u)) (s4 _ _ eb) (small' (by omega)), ?_⟩
        refine ⟨31 - (kvb.length + 1), by omega, _, _, _, rfl, ?_, same_mut (sm.trans s4) nb, upd_same⟩
        rw [putK_new _ hfree, List.length_append]
        rfl
    · exact qE H' (s03.trans sm)
end
end Lg
/-! layers.py walked: worths_of, sizes_of, total_of -/
namespace Lg
open PySem PySem.Spec PyProof.Rows L2
/-! ### worths as dicts -/
def wKV (ls : List Nat) (g : Nat → Int) : List (Key × V) := ls.map fun c => (Sum.inr (S [c]), .int (g c))
theorem key_ne {c d : Nat} (h : c ≠ d) : (Sum.inr (S [c]) : Key) ≠ Sum.inr (S [d]) := fun e => h (by
  have := S_inj (Sum.inr.inj e)
  simpa using this)
theorem wKV_get {ls : List Nat} {g : Nat → Int} {c : Nat} (h : c ∈ ls) : valV (wKV ls g) (Sum.inr (S [c])) = some (.int (g c)) := by
  induction ls with
  | nil => simp at h
  | cons d ls ih =>
    show valV ((Sum.inr (S [d]), .int (g d)) :: wKV ls g) _ = _
    by_cases e : d = c
    · subst e
      exact valV_pos rfl
    · rw [valV_neg (p := (Sum.inr (S [d]), .int (g d))) (key_ne e)]
      refine ih ?_
      rcases List.mem_cons.mp h with h | h
      · exact absurd h.symm e
      · exact h
theorem wKV_none {ls : List Nat} {g : Nat → Int} {c : Nat} (h : c ∉ ls) : valV (wKV ls g) (Sum.inr (S [c])) = none := by
  induction ls with
  | nil => rfl
  | cons d ls ih =>
    show valV ((Sum.inr (S [d]), .int (g d)) :: wKV ls g) _ = _
    have h1 : c ≠ d ∧ c ∉ ls := by simpa using h
    rw [valV_neg (p := (Sum.inr (S [d]), .int (g d))) (key_ne fun e => h1.1 e.symm)]
    exact ih h1.2
theorem merge_nodup : ∀ (more acc : List (Key × V)), (more.map (·.1)).Nodup → (∀ kv ∈ more, valV acc kv.1 = none) → mergeK acc more = acc ++ more
  | [], acc, _, _ => by rw [List.append_nil]; rfl
  | kv :: more, acc, nd, h => by
    have nd' := List.nodup_cons.mp nd
    show mergeK (putK acc kv.1 kv.2) more = _
    rw [putK_new _ (h kv List.mem_cons_self), merge_nodup more _ nd'.2 fun x hx => ?_, List.append_assoc]
    · rfl
    · rw [valV_snoc _ _ _ _ (h kv List.mem_cons_self), if_neg fun e => nd'.1 ?_]
      · exact h x (List.mem_cons_of_mem _ hx)
      · show kv.1 ∈ _
        rw [← e]
        exact List.mem_map.mpr ⟨x, hx, rfl⟩
theorem wKV_nodup {ls : List Nat} {g : Nat → Int} (nd : ls.Nodup) : ((wKV ls g).map (·.1)).Nodup := by
  unfold wKV
  rw [List.map_map]
  refine List.pairwise_map.mpr (nd.imp fun {a b} h => ?_)
  exact key_ne h
theorem merge_wKV {ls : List Nat} {g : Nat → Int} (nd : ls.Nodup) : mergeK [] (wKV ls g) = wKV ls g := by
  rw [merge_nodup _ _ (wKV_nodup nd) fun _ _ => rfl]
  rfl
/-- a list of dicts: at j what each letter is worth with n - j ages to go -/
def WorthsAt (K : PySem.W.Frag) (H : Hp) (p : Addr) (n : Nat) (ls : List Nat) (f : Nat → Nat → Int) : Prop :=
  ∃ ds : List Addr, SqL K H p (ds.map V.ref) ∧ ds.length = n + 1 ∧ ∀ (j : Nat) (d : Addr), ds[j]? = some d → Rd H d (.dK (wKV ls (f (n - j))))
theorem WorthsAt.same {K : PySem.W.Frag} {H H' : Hp} {p : Addr} {n : Nat} {ls : List Nat} {f : Nat → Nat → Int} (h : WorthsAt K H p n ls f) (e : Same H H') : WorthsAt K H' p n ls f := by
  obtain ⟨ds, h1, h2, h3⟩ := h
  exact ⟨ds, e.seq h1, h2, fun j d a => same_rd e (h3 j d a)⟩
/-- n times the same dict of words -/
def WordsAt (K : PySem.W.Frag) (H : Hp) (p : Addr) (n : Nat) (rs : Rls) : Prop := ∃ d : Addr, SqL K H p (List.replicate n (.ref d)) ∧ Rd H d (.dK (wordsKV rs))
theorem WordsAt.same {K : PySem.W.Frag} {H H' : Hp} {p : Addr} {n : Nat} {rs : Rls} (h : WordsAt K H p n rs) (e : Same H H') : WordsAt K H' p n rs := by
  obtain ⟨d, h1, h2⟩ := h
  exact ⟨d, e.seq h1, same_rd e h2⟩
theorem rd_lock {H : Hp} {a d : Addr} {od : Obj} {u : HO} {kvs : List (Key × V)} {us : List (Key × V)} (h : Rd H a (.dK kvs)) (hd : H d = some (.dK us)) : Rd (upd H d (.frz od (.dK us))) a (.dK kvs) := by
  by_cases e : a = d
  · subst e
    rcases h with h | ⟨o, h⟩
    · rw [hd] at h
      have : us = kvs := by
        cases h
        rfl
      subst this
      exact .inr ⟨od, upd_same⟩
    · rw [hd] at h
      cases h
  · rcases h with h | ⟨o, h⟩
    · exact .inl (by rw [upd_ne e]; exact h)
    · exact .inr ⟨o, by rw [upd_ne e]; exact h⟩
theorem same_unlock {H H' : Hp} {d : Addr} {od : Obj} {u : HO} (hd : H d = some u) (sm : Same (upd H d (.frz od u)) H') : Same H (upd H' d u) := fun b o e => by
  by_cases h : b = d
  · subst h
    rw [hd] at e
    rw [upd_same, e]
  · rw [upd_ne h]
    exact sm b o (by rw [upd_ne h]; exact e)

section
variable {P : Program} {w : World} {K : PySem.W.Frag} {mg : Str → Option Value} {base : Heap}
/-- tuples (letter, whole number), just made, in order -/
theorem pairs_of_acc {H : Hp} {acc : List V} {ls : List Nat} {g : Nat → Int} (hl : acc.length = ls.length) (he : ∀ (i : Nat) (v : V), acc[i]? = some v → ∃ t, v = V.ref t ∧ ∃ c : Nat, ls[i]? = some c ∧ H t = some (.tup [tv [c], .int (g c)])) :
    ∃ ts : List Addr, acc = ts.map V.ref ∧ Paired (fun (p : Addr) (kv : Key × V) => SqT K H p [kV kv.1, kv.2]) ts (wKV ls g) := by
  induction ls generalizing acc with
  | nil =>
    cases acc with
    | nil => exact ⟨[], rfl, .nil⟩
    | cons v l => simp at hl
  | cons c ls ih =>
    cases acc with
    | nil => simp at hl
    | cons v acc =>
      obtain ⟨ts, e, h⟩ := ih (acc := acc) (by simpa using hl) fun i v hv => he (i + 1) v hv
      obtain ⟨t, e1, c', hc', ht⟩ := he 0 v rfl
      have ec : c = c' := by simpa using hc'
      subst ec
      exact ⟨t :: ts, by rw [e, e1]; rfl, .cons (tup_of ht) h⟩
/-! ### worths_of -/
def spWorthsOf (K : PySem.W.Frag) : Sp := fun vs H Q _ => ∃ (wd e : Addr) (n : Nat) (rs : Rls) (g : Nat → Int), vs = [.ref wd, .ref e] ∧ WordsAt K H wd n rs ∧ RlsOk rs ∧ H e = some (.dK (wKV (keysOf rs) g)) ∧ n ≤ 300 ∧
  ∀ H' p, Same H H' → WorthsAt K H' p n (keysOf rs) (wo (wOf rs) g) → Q (.ref p) H'
theorem c_worths_of (T : Facts K mg) : C8.Cal P w K mg base 1 "worths_of" (spWorthsOf K) [] := by
  refine cal T.d_worths_of sc_worths_of (fun vs H Q E h => ?_) (fun f cdv A outer s H vs Q E hr h => ?_)
  · obtain ⟨wd, e, n, rs, g, rfl, _⟩ := h
    rfl
  · obtain ⟨wd, e, n, rs, g, rfl, ⟨d, hwd, hd⟩, ok, he, hn, q⟩ := h
    refine ⟨_, (pss_cons (ps_set (i := 2) sc_worths_of.nd rfl (Or.inl rfl) (pe_lst (pa_cons (pv 1) pa_nil)))
      (pss_cons (ps_for PassesOwn.never rfl (pi_reversed (by rfl) T.b_reversed (pa_cons (pv 0) pa_nil)) (pg_name (i := 3) sc_worths_of.nd rfl (Or.inr rfl))
      (pss_cons (ps_set (i := 4) sc_worths_of.nd rfl (Or.inr rfl) (pe_ix (r := rIxL K) ix_list (pv 2) (pe_un un_neg pe_int) (fun _ _ => rfl)))
        (pss_one (ps_expr (pe_bm PySem.F.plainAttrs_list PySem.F.slot_list_append PySem.F.type_list_append mt_append (pv 2) (pa_cons (pe_callTy (call_dictP rfl) (by rfl) T.b_dict (by decide +kernel) (pa_cons (pe_lock (pe_lc (own := [("letter", 5)]) (g := gName 5) (tt := tYes) rfl sc_worths_of.nd (pi_keys (pv 1)) (blkOk_by (N := ["words", "ends", "found", "told", "behind", "letter", "sign"]) (sc := defScope s_worths_of) (by decide +kernel)) (fun _ _ _ _ _ => pg_name (i := 5) sc_worths_of.nd rfl (Or.inl rfl)) (fun _ _ _ _ _ => pts_nil) (fun _ _ _ _ _ => (pe_tup (pa_cons (pv 5) (pa_cons (pe_callB (r := rSum K) (cr_sum rfl) (by rfl) T.b_sum (by decide +kernel) (pa_cons (pe_lc (own := [("sign", 6)]) (g := gName 6) (tt := tYes) rfl sc_worths_of.nd (pi_str (pe_dget (hu_of hr) (pv 3) (pv 5) (fun _ _ => rfl))) (blkOk_by (N := ["words", "ends", "found", "told", "behind", "letter", "sign"]) (sc := relS _ (defScope s_worths_of)) (by decide +kernel)) (fun _ _ _ _ _ => pg_name (i := 6) sc_worths_of.nd rfl (Or.inl rfl)) (fun _ _ _ _ _ => pts_nil) (fun _ _ _ _ _ => (pe_dget (hu_of hr) (pv 4) (pv 6) (fun _ _ => rfl)))) pa_nil)) pa_nil)))))) pa_nil)) pa_nil))))))
      (pss_cons (ps_expr (pe_bm0 PySem.F.plainAttrs_list PySem.F.slot_list_reverse PySem.F.type_list_reverse mt_reverse (pv 2)))
      (pss_one (ps_ret (pv 2)))))), ?_⟩
    refine ⟨_, rfl, by show 1 ≤ sizeLine; decide, fun fo nf => ?_⟩
    refine ⟨_, rfl, wd, _, rfl, (same_new nf : Same H _).seq hwd, ?_⟩
    refine for_it walk_rev (fun i σ H' => ∃ y3 y4 ds, σ = [some (.ref wd), some (.ref e), some (.ref fo), y3, y4, none, none] ∧ Same H H' ∧ H' fo = some (.lst (ds.map V.ref)) ∧ ds.length = i + 1 ∧
        ∀ (j : Nat) (d' : Addr), ds[j]? = some d' → H' d' = some (.dK (wKV (keysOf rs) (wo (wOf rs) g j))))
      ⟨none, none, [e], rfl, same_new nf, upd_same, rfl, fun j d' hj => ?_⟩ (fun i σ H' _ pp => ?_) (fun i x σ H' H'' hlt pp y => ?_) (fun σ H' pp => ?_)
    · have hj0 : j = 0 ∧ d' = e := by
        cases j with
        | zero => exact ⟨rfl, by simpa using hj.symm⟩
        | succ j => simp at hj
      obtain ⟨rfl, rfl⟩ := hj0
      rw [show wo (wOf rs) g 0 = g from funext fun c => wo_zero _ _ _]
      exact same_new nf _ _ he
    · obtain ⟨_, _, _, _, sm, _⟩ := pp
      exact sm.seq hwd
    · obtain ⟨y3, y4, ds, rfl, sm, ef, hdl, hds⟩ := pp
      obtain ⟨rfl, hx⟩ := y
      have hin : i < n := by
        rw [List.length_replicate] at hlt
        exact hlt
      have ex : x = .ref d := by
        rw [List.getElem?_replicate] at hx
        split at hx
        · exact (Option.some.inj hx).symm
        · cases hx
      subst ex
      have hds0 : ds ≠ [] := by
        intro z
        subst z
        simp at hdl
      have hlast : atI (ds.map V.ref) (-1) = some (.ref (ds.getLast hds0)) := by
        have : ds.map V.ref = ds.dropLast.map V.ref ++ [.ref (ds.getLast hds0)] := by
          conv => lhs; rw [← List.dropLast_concat_getLast hds0]
          rw [List.map_append]
          rfl
        rw [this]
        exact atI_last _ _
      have hbg : ds[i]? = some (ds.getLast hds0) := by
        rw [List.getLast_eq_getElem, List.getElem?_eq_getElem (by omega)]
        congr 2
        omega
      have hbd := hds i _ hbg
      generalize hB : ds.getLast hds0 = bd at *
      refine ⟨_, rfl, 1, rfl, fo, _, _, _, rfl, rfl, lst_of ef, hlast, ?_⟩
      refine ⟨_, rfl, .inl ⟨rfl, _, lst_of ef⟩, ?_⟩
      -- the dict's pairs
      have heH : H'' e = some (.dK (wKV (keysOf rs) g)) := sm _ _ he
      refine ⟨e, _, heH, trivial, fun od => ?_⟩
      refine ⟨_, rfl, e, od, rfl, .inl ⟨_, upd_same, fun D hD => ?_⟩⟩
      refine lcn_gen (walk_keys (kvs := wKV (keysOf rs) g)) (fun j v H => ∃ t, v = V.ref t ∧ ∃ c, (keysOf rs)[j]? = some c ∧ H t = some (.tup [tv [c], .int (wo (wOf rs) g (i + 1) c)]))
        (by unfold wKV; rw [List.length_map]; have := ok.klen; omega) hD (fun H4 s4 => s4 _ _ upd_same) (fun _ => rfl) (fun j v H4 H5 s4 h => ?_) (fun j v H4 xs ys hD4 h => ?_) (fun j x H4 H5 Qc hj s4 y qc => ?_) (fun H4 acc s4 hac hal hae => ?_)
      · obtain ⟨t, e1, c, hc, ht⟩ := h
        exact ⟨t, e1, c, hc, s4 _ _ ht⟩
      · obtain ⟨t, e1, c, hc, ht⟩ := h
        refine ⟨t, e1, c, hc, ?_⟩
        rw [upd_ne]
        · exact ht
        · intro z
          subst z
          rw [hD4] at ht
          cases ht
      · obtain ⟨rfl, k, v, hkv, rfl⟩ := y
        unfold wKV at hkv
        rw [List.getElem?_map, Option.map_eq_some_iff] at hkv
        obtain ⟨c, hc, hkc⟩ := hkv
        cases hkc
        have hcm := List.mem_of_getElem? hc
        have hdL : Rd H5 d (.dK (wordsKV rs)) := same_rd s4 (rd_lock (u := .dK []) (same_rd sm hd) heH)
        have hbL : Rd H5 bd (.dK (wKV (keysOf rs) (wo (wOf rs) g i))) := same_rd s4 (rd_lock (u := .dK []) (.inl hbd) heH)
        refine ⟨_, rfl, _, rfl, _, rfl, d, _, rfl, dget_rd (k := Sum.inr (S [c])) hdL (wordsKV_get ok hcm), _, rfl, fun D2 hD2 => ?_⟩
        refine lcn_val (walk_str (z := S (wOf rs c))) (fun m => .int (wo (wOf rs) g i (((wOf rs c)[m]?).getD 0))) (by rw [S_size]; have := ok.wlen hcm; omega) hD2 (fun _ _ => trivial) (fun _ => rfl) (fun m x H6 H7 Qc2 hm s6 y q2 => ?_) (fun H6 s6 hd6 => ?_)
        · obtain ⟨rfl, c2, hc2, rfl⟩ := y
          rw [S_get] at hc2
          refine ⟨_, rfl, _, rfl, bd, _, rfl, dget_rd (k := Sum.inr (S [c2])) (same_rd s6 hbL) (wKV_get (ok.wmem c hcm c2 (List.mem_of_getElem? hc2))), ?_⟩
          have := q2 H7 (Same.refl _)
          rw [hc2] at this
          exact this
        · have e6 : ((List.range (S (wOf rs c)).cps.size).map fun m => V.int (wo (wOf rs) g i (((wOf rs c)[m]?).getD 0))) = ((wOf rs c).map (wo (wOf rs) g i)).map V.int := by
            rw [List.map_map, S_size]
            refine range_get _ _ _ fun m c2 hc2 => ?_
            rw [hc2]
            rfl
          rw [e6] at hd6
          refine ⟨D2, _, rfl, lst_of hd6, by show 2 ≤ sizeLine; decide, fun t nt => ?_⟩
          refine qc _ _ (s6.trans (same_new nt)) ⟨t, rfl, c, hc, ?_⟩
          rw [upd_same, wo_succ]
          rfl
      · have hlk : (wKV (keysOf rs) g).length = (keysOf rs).length := by
          unfold wKV
          rw [List.length_map]
        have hfrz : H4 e = some (.frz od (.dK (wKV (keysOf rs) g))) := s4 _ _ upd_same
        refine ⟨hfrz, ?_⟩
        have s5 : Same H'' (upd H4 e (.dK (wKV (keysOf rs) g))) := same_unlock heH s4
        have hDe : D ≠ e := fun z => by
          subst z
          rw [hac] at hfrz
          cases hfrz
        obtain ⟨ts, rfl, hpair2⟩ := pairs_of_acc (K := K) (H := upd H4 e (.dK (wKV (keysOf rs) g))) (g := wo (wOf rs) g (i + 1)) (hal.trans hlk) fun j v hv => by
          obtain ⟨t, e1, c, hc, ht⟩ := hae j v hv
          refine ⟨t, e1, c, hc, ?_⟩
          rw [upd_ne]
          · exact ht
          · intro z
            subst z
            rw [hfrz] at ht
            cases ht
        refine ⟨D, ts, _, rfl, lst_of (by rw [upd_ne hDe]; exact hac), hpair2, fun nd2 hnd => ?_⟩
        rw [merge_wKV ok.nd]
        have s6 : Same (upd H4 e (.dK (wKV (keysOf rs) g))) (upd (upd H4 e (.dK (wKV (keysOf rs) g))) nd2 (.dK (wKV (keysOf rs) (wo (wOf rs) g (i + 1))))) := same_new hnd
        refine ⟨fo, _, _, rfl, rfl, s6 _ _ (s5 _ _ ef), ?_, ?_⟩
        · rw [List.length_map]
          exact small' (by omega)
        · have hfo : ∀ d' kv, H'' d' = some (.dK kv) → d' ≠ fo := fun d' kv h z => by
            subst z
            rw [ef] at h
            cases h
          refine ⟨_, _, ds ++ [nd2], rfl, same_mut (sm.trans (s5.trans s6)) nf, ?_, ?_, fun j d' hj => ?_⟩
          · rw [upd_same, List.map_append]
            rfl
          · rw [List.length_append, hdl]
            rfl
          · by_cases hjl : j < ds.length
            · rw [List.getElem?_append_left hjl] at hj
              have h1 := hds j d' hj
              rw [upd_ne (hfo d' _ h1)]
              exact s6 _ _ (s5 _ _ h1)
            · have ej : j = ds.length := by
                have := (List.getElem?_eq_some_iff.mp hj).1
                rw [List.length_append] at this
                have h1 : ([nd2] : List Addr).length = 1 := rfl
                omega
              subst ej
              rw [List.getElem?_append_right (Nat.le_refl _), Nat.sub_self] at hj
              have : nd2 = d' := Option.some.inj hj
              subst this
              rw [upd_ne, upd_same, hdl]
              intro z
              subst z
              rw [s5 _ _ ef] at hnd
              cases hnd
    · obtain ⟨y3, y4, ds, rfl, sm, ef, hdl, hds⟩ := pp
      rw [List.length_replicate] at hdl
      refine ⟨_, rfl, .inl ⟨rfl, _, lst_of ef⟩, fo, _, rfl, rfl, ef, ?_⟩
      refine ⟨_, rfl, q _ fo (same_mut sm nf) ⟨ds.reverse, lst_of (by rw [upd_same, List.map_reverse]), by rw [List.length_reverse, hdl], fun j d' hj => ?_⟩⟩
      have hjl := (List.getElem?_eq_some_iff.mp hj).1
      rw [List.length_reverse] at hjl
      rw [List.getElem?_reverse hjl] at hj
      have e1 : ds.length - 1 - j = n - j := by omega
      rw [e1] at hj
      have h1 := hds _ _ hj
      refine .inl ?_
      rw [upd_ne]
      · exact h1
      · intro z
        subst z
        rw [ef] at h1
        cases h1
/-! ### sizes_of, total_of -/
def spSizesOf (K : PySem.W.Frag) : Sp := fun vs H Q _ => ∃ (wd : Addr) (n : Nat) (rs : Rls), vs = [.ref wd, tv (keysOf rs)] ∧ WordsAt K H wd n rs ∧ RlsOk rs ∧ n ≤ 300 ∧ ∀ H' p, Same H H' → WorthsAt K H' p n (keysOf rs) (sz (wOf rs)) → Q (.ref p) H'
theorem c_sizes_of (T : Facts K mg) : C8.Cal P w K mg base 2 "sizes_of" (spSizesOf K) [] := by
  refine cal T.d_sizes_of sc_sizes_of (fun vs H Q E h => ?_) (fun f cdv A outer s H vs Q E hr h => ?_)
  · obtain ⟨wd, n, rs, rfl, _⟩ := h
    rfl
  · obtain ⟨wd, n, rs, rfl, hwd, ok, hn, q⟩ := h
    refine ⟨_, (pss_one (ps_ret (C8.pe_c (c_worths_of T) hr (by decide) rfl (pa_cons (pv 0) (pa_cons (pe_callTy (call_dictP rfl) (by rfl) T.b_dict (by decide +kernel) (pa_cons (pe_lc (own := [("letter", 2)]) (g := gName 2) (tt := tYes) rfl sc_sizes_of.nd (pi_str (pv 1)) (blkOk_by (N := ["words", "names", "letter"]) (sc := defScope s_sizes_of) (by decide +kernel)) (fun _ _ _ _ _ => pg_name (i := 2) sc_sizes_of.nd rfl (Or.inl rfl)) (fun _ _ _ _ _ => pts_nil) (fun _ _ _ _ _ => (pe_tup (pa_cons (pv 2) (pa_cons pe_int pa_nil))))) pa_nil)) pa_nil))))), ?_⟩
    refine ⟨_, rfl, _, rfl, _, rfl, fun D hD => ?_⟩
    refine lcn_gen (walk_str (z := S (keysOf rs))) (fun j v H => ∃ t, v = V.ref t ∧ ∃ c, (keysOf rs)[j]? = some c ∧ H t = some (.tup [tv [c], .int 1]))
      (by rw [S_size]; have := ok.klen; omega) hD (fun _ _ => trivial) (fun _ => rfl) (fun j v H4 H5 s4 h => ?_) (fun j v H4 xs ys hD4 h => ?_) (fun j x H4 H5 Qc hj s4 y qc => ?_) (fun H4 acc s4 hac hal hae => ?_)
    · obtain ⟨t, e1, c, hc, ht⟩ := h
      exact ⟨t, e1, c, hc, s4 _ _ ht⟩
    · obtain ⟨t, e1, c, hc, ht⟩ := h
      refine ⟨t, e1, c, hc, ?_⟩
      rw [upd_ne]
      · exact ht
      · intro z
        subst z
        rw [hD4] at ht
        cases ht
    · obtain ⟨rfl, c, hc, rfl⟩ := y
      rw [S_get] at hc
      refine ⟨_, rfl, by show 2 ≤ sizeLine; decide, fun t nt => ?_⟩
      exact qc _ _ (same_new nt) ⟨t, rfl, c, hc, upd_same⟩
    · rw [S_size] at hal
      obtain ⟨ts, rfl, hpair⟩ := pairs_of_acc (K := K) (H := H4) (g := fun _ => 1) hal hae
      refine ⟨D, ts, _, rfl, lst_of hac, hpair, fun e ne => ?_⟩
      rw [merge_wKV ok.nd]
      refine ⟨wd, e, n, rs, fun _ => 1, rfl, (hwd.same s4).same (same_new ne), ok, upd_same, hn, fun H' p s5 hw => ?_⟩
      exact q H' p ((s4.trans (same_new ne)).trans s5) hw
def spTotalOf (K : PySem.W.Frag) : Sp := fun vs H Q _ => ∃ (p : Addr) (n : Nat) (ls : List Nat) (f : Nat → Nat → Int) (t : Tx), vs = [.ref p, tv t] ∧ WorthsAt K H p n ls f ∧ (∀ c ∈ t, c ∈ ls) ∧ t.length ≤ 1000 ∧ ∀ H', Same H H' → Q (.int (wsum (f n) t)) H'
theorem c_total_of (T : Facts K mg) : C8.Cal P w K mg base 1 "total_of" (spTotalOf K) [] := by
  refine cal T.d_total_of sc_total_of (fun vs H Q E h => ?_) (fun f cdv A outer s H vs Q E hr h => ?_)
  · obtain ⟨p, n, ls, g, t, rfl, _⟩ := h
    rfl
  · obtain ⟨p, n, ls, g, t, rfl, ⟨ds, hp, hdl, hds⟩, hm, hl, q⟩ := h
    refine ⟨_, (pss_one (ps_ret (pe_callB (r := rSum K) (cr_sum rfl) (by rfl) T.b_sum (by decide +kernel) (pa_cons (pe_lc (own := [("sign", 2)]) (g := gName 2) (tt := tYes) rfl sc_total_of.nd (pi_str (pv 1)) (blkOk_by (N := ["worths", "first", "sign"]) (sc := defScope s_total_of) (by decide +kernel)) (fun _ _ _ _ _ => pg_name (i := 2) sc_total_of.nd rfl (Or.inl rfl)) (fun _ _ _ _ _ => pts_nil) (fun _ _ _ _ _ => (pe_dget (hu_of hr) (pe_ix (r := rIxL K) ix_list (pv 0) pe_int (fun _ _ => rfl)) (pv 2) (fun _ _ => rfl)))) pa_nil)))), ?_⟩
    have h0 : ds[0]? = some (ds[0]'(by omega)) := List.getElem?_eq_getElem (by omega)
    have hd0 := hds 0 _ h0
    have hx0 : (ds.map V.ref)[0]? = some (.ref (ds[0]'(by omega))) := by
      rw [List.getElem?_map, h0]
      rfl
    generalize (ds[0]'(by omega)) = d0 at hd0 hx0
    refine ⟨_, rfl, _, rfl, fun D hD => ?_⟩
    refine lcn_val (walk_str (z := S t)) (fun m => .int (g n ((t[m]?).getD 0))) (by rw [S_size]; omega) hD (fun _ _ => trivial) (fun _ => rfl) (fun m x H6 H7 Qc2 hm' s6 y q2 => ?_) (fun H6 s6 hd6 => ?_)
    · obtain ⟨rfl, c2, hc2, rfl⟩ := y
      rw [S_get] at hc2
      refine ⟨_, rfl, p, _, 0, _, rfl, rfl, s6.seq hp, atI_nat (j := 0) hx0, _, rfl, d0, _, rfl, dget_rd (k := Sum.inr (S [c2])) (same_rd s6 hd0) (wKV_get (hm c2 (List.mem_of_getElem? hc2))), ?_⟩
      have := q2 H7 (Same.refl _)
      rw [hc2] at this
      exact this
    · have e6 : ((List.range (S t).cps.size).map fun m => V.int (g n ((t[m]?).getD 0))) = (t.map (g n)).map V.int := by
        rw [List.map_map, S_size]
        refine range_get _ _ _ fun m c2 hc2 => ?_
        rw [hc2]
        rfl
      rw [e6] at hd6
      exact ⟨D, _, rfl, lst_of hd6, q H6 s6⟩
end
end Lg
/-! layers.py walked: way_down, worth_ahead -/
namespace Lg
open PySem PySem.Spec PyProof.Rows L2
theorem S_atI {t : Tx} {i c : Nat} {z : Int} (e : z = (i : Int)) (h : t[i]? = some c) : atI (S t).cps.toList z = some c := by
  rw [S_list, e]
  exact atI_nat h
theorem WorthsAt.at {K : PySem.W.Frag} {H : Hp} {p : Addr} {n : Nat} {ls : List Nat} {f : Nat → Nat → Int} (h : WorthsAt K H p n ls f) {j : Nat} (hj : j ≤ n) : ∃ (xs : List V) (d : Addr), SqL K H p xs ∧ xs[j]? = some (.ref d) ∧ xs.length = n + 1 ∧ Rd H d (.dK (wKV ls (f (n - j)))) := by
  obtain ⟨ds, h1, h2, h3⟩ := h
  have hj' : ds[j]? = some (ds[j]'(by omega)) := List.getElem?_eq_getElem (by omega)
  exact ⟨_, _, h1, by rw [List.getElem?_map, hj']; rfl, by rw [List.length_map, h2], h3 j _ hj'⟩
/-- a way, as a list of tuples -/
def WayAt (K : PySem.W.Frag) (H : Hp) (p : Addr) (s : List (Nat × Nat)) : Prop :=
  ∃ ts : List Addr, SqL K H p (ts.map V.ref) ∧ ts.length = s.length ∧ ∀ (i : Nat) (t : Addr) (x : Nat × Nat), ts[i]? = some t → s[i]? = some x → SqT K H t [tv [x.1], .int (x.2 : Int)]
theorem WayAt.same {K : PySem.W.Frag} {H H' : Hp} {p : Addr} {s : List (Nat × Nat)} (h : WayAt K H p s) (e : Same H H') : WayAt K H' p s := by
  obtain ⟨ts, h1, h2, h3⟩ := h
  exact ⟨ts, e.seq h1, h2, fun i t x a b => same_tup e (h3 i t x a b)⟩
theorem wsum_drop {f : Nat → Int} {t : Tx} {i c : Nat} (h : t[i]? = some c) : wsum f (t.drop i) = f c + wsum f (t.drop (i + 1)) := by
  obtain ⟨hi, hc⟩ := List.getElem?_eq_some_iff.mp h
  rw [← List.getElem_cons_drop hi, wsum_cons, hc]
theorem wsum_take_succ {f : Nat → Int} {t : Tx} {i c : Nat} (h : t[i]? = some c) : wsum f (t.take (i + 1)) = wsum f (t.take i) + f c := by
  rw [take_snoc h, wsum_app, wsum_cons, wsum_nil]
  omega
section
variable {P : Program} {w : World} {K : PySem.W.Frag} {mg : Str → Option Value} {base : Heap}
/-! ### way_down -/
def spWayDown (K : PySem.W.Frag) : Sp := fun vs H Q _ => ∃ (wd wp : Addr) (n : Nat) (rs : Rls) (t : Tx) (l : Int), vs = [.ref wd, .ref wp, tv t, .int l] ∧ WordsAt K H wd n rs ∧ WorthsAt K H wp n (keysOf rs) (sz (wOf rs)) ∧ RlsOk rs ∧ n ≤ 300 ∧ t.length ≤ 1000 ∧ (∀ c ∈ t, c ∈ keysOf rs) ∧
  0 ≤ l ∧ l < wsum (sz (wOf rs) n) t ∧ ∀ H' p s, Same H H' → H p = none → WayAt K H' p s → WayOk (wOf rs) n t l s → Q (.ref p) H'
theorem c_way_down (T : Facts K mg) : C8.Cal P w K mg base 1 "way_down" (spWayDown K) [] := by
  refine cal T.d_way_down sc_way_down (fun vs H Q E h => ?_) (fun f cdv A outer s H vs Q E hr h => ?_)
  · obtain ⟨wd, wp, n, rs, t, l, rfl, _⟩ := h
    rfl
  · obtain ⟨wd, wp, n, rs, t, l, rfl, hwd, hwp, ok, hn, htl, hm, hl0, hl1, q⟩ := h
    refine ⟨_, (pss_cons (ps_set (i := 4) sc_way_down.nd rfl (Or.inl rfl) (pe_lst pa_nil))
      (pss_cons (ps_set (i := 5) sc_way_down.nd rfl (Or.inl rfl) (pv 2))
      (pss_cons (ps_for PassesOwn.never rfl (pi_range1 rfl T.b_range (pa_cons (pe_callB call_len_seq (by rfl) T.b_len PySem.boot_len (pa_cons (pv 1) pa_nil)) pa_nil)) (pg_name (i := 6) sc_way_down.nd rfl (Or.inl rfl))
      (pss_cons (ps_set (i := 7) sc_way_down.nd rfl (Or.inl rfl) pe_int)
        (pss_cons (ps_while PassesOwn.never (pt_cmpR op_ge (pv 3) (pe_dget (hu_of hr) (pe_ix (r := rIxL K) ix_list (pv 1) (pv 6) (fun _ _ => rfl)) (pe_ix (r := rIxS) ix_str (pv 5) (pv 7) (fun _ _ => rfl)) (fun _ _ => rfl)) (nomark _))
        (pss_cons (ps_set (i := 3) sc_way_down.nd rfl (Or.inl rfl) (pe_op op_sub (pv 3) (pe_dget (hu_of hr) (pe_ix (r := rIxL K) ix_list (pv 1) (pv 6) (fun _ _ => rfl)) (pe_ix (r := rIxS) ix_str (pv 5) (pv 7) (fun _ _ => rfl)) (fun _ _ => rfl))))
          (pss_one (ps_set (i := 7) sc_way_down.nd rfl (Or.inl rfl) (pe_op op_add (pv 7) pe_int)))))
        (pss_cons (ps_expr (pe_bm PySem.F.plainAttrs_list PySem.F.slot_list_append PySem.F.type_list_append mt_append (pv 4) (pa_cons (pe_tup (pa_cons (pe_ix (r := rIxS) ix_str (pv 5) (pv 7) (fun _ _ => rfl)) (pa_cons (pv 7) pa_nil))) pa_nil)))
        (pss_one (ps_if (pt_cmpR op_lt (pv 6) (pe_callB call_len_seq (by rfl) T.b_len PySem.boot_len (pa_cons (pv 0) pa_nil)) (nomark _))
        (pss_one (ps_set (i := 5) sc_way_down.nd rfl (Or.inl rfl) (pe_dget (hu_of hr) (pe_ix (r := rIxL K) ix_list (pv 0) (pv 6) (fun _ _ => rfl)) (pe_ix (r := rIxS) ix_str (pv 5) (pv 7) (fun _ _ => rfl)) (fun _ _ => rfl))))
        pss_nil))))))
      (pss_one (ps_ret (pv 4)))))), ?_⟩
    refine ⟨Nat.zero_le _, fun fo nf => ?_⟩
    refine ⟨_, rfl, ?_⟩
    obtain ⟨xs0, d0, hx0, _, hxl, _⟩ := (hwp.same (same_new nf)).at (Nat.zero_le _)
    refine ⟨_, rfl, wp, xs0, rfl, .inl hx0, _, rfl, by omega, by omega, ?_⟩
    have en : ((xs0.length : Int)).toNat = n + 1 := by omega
    rw [en]
    refine for_it walk_range (fun i σ H' => ∃ (l' : Int) (t' : Tx) (st : List (Nat × Nat)) (ts : List Addr) (y6 y7 : Option V), σ = [some (.ref wd), some (.ref wp), some (tv t), some (.int l'), some (.ref fo), some (tv t'), y6, y7] ∧ Same H H' ∧ H' fo = some (.lst (ts.map V.ref)) ∧ ts.length = i ∧ st.length = i ∧
        (∀ (j : Nat) (a : Addr) (x : Nat × Nat), ts[j]? = some a → st[j]? = some x → H' a = some (.tup [tv [x.1], .int (x.2 : Int)])) ∧
        ((∃ m, i + m = n ∧ (∀ c ∈ t', c ∈ keysOf rs) ∧ t'.length ≤ 1000 ∧ 0 ≤ l' ∧ l' < wsum (sz (wOf rs) m) t' ∧ ∀ r, WayOk (wOf rs) m t' l' r → WayOk (wOf rs) n t l (st ++ r)) ∨ (i = n + 1 ∧ WayOk (wOf rs) n t l st)))
      ⟨l, t, [], [], none, none, rfl, same_new nf, upd_same, rfl, rfl, fun j a x h => by simp at h, .inl ⟨n, by omega, hm, htl, hl0, hl1, fun r h => h⟩⟩ (fun _ _ _ _ _ => trivial) (fun i x σ H' H'' hlt pp y => ?_) (fun σ H' pp => ?_)
    · obtain ⟨l', t', st, ts, y6, y7, rfl, sm, ef, htsl, hstl, htup, hor⟩ := pp
      obtain ⟨rfl, ex⟩ := y
      have ex2 : x = .int (i : Int) := ex.trans (congrArg V.int (Int.zero_add _))
      subst ex2
      rcases hor with ⟨m, him, hm', htl', hl0', hl1', hway⟩ | ⟨h1, _⟩
      rotate_left
      · omega
      have hwp2 := hwp.same sm
      obtain ⟨xs, d, hxs, hxi, hxsl, hd⟩ := hwp2.at (j := i) (by omega)
      have enm : n - i = m := by omega
      rw [enm] at hd
      obtain ⟨dw, hwds, hdw⟩ := id hwd
      have txl : (S t').length ≤ sizeLine := small (by rw [S_len]; omega)
      refine ⟨fun mm σ H2 => ∃ (idx : Nat) (l2 : Int), σ = [some (.ref wd), some (.ref wp), some (tv t), some (.int l2), some (.ref fo), some (tv t'), some (.int (i : Int)), some (.int (idx : Int))] ∧ mm = t'.length - idx ∧ H2 = H'' ∧
          l2 = l' - wsum (sz (wOf rs) m) (t'.take idx) ∧ 0 ≤ l2 ∧ l2 < wsum (sz (wOf rs) m) (t'.drop idx),
        ⟨_, 0, l', rfl, rfl, rfl, by rw [List.take_zero, wsum_nil]; omega, hl0', by rw [List.drop_zero]; exact hl1'⟩, fun mm σ H2 hW => ?_⟩
      obtain ⟨idx, l2, rfl, rfl, rfl, hl2, h20, h21⟩ := hW
      have hidx : idx < t'.length := by
        by_cases h : idx < t'.length
        · exact h
        · rw [List.drop_of_length_le (by omega), wsum_nil] at h21
          omega
      have hc : t'[idx]? = some t'[idx] := List.getElem?_eq_getElem hidx
      generalize t'[idx] = c at hc
      have hcm := hm' c (List.mem_of_getElem? hc)
      have hcd := wsum_drop (f := sz (wOf rs) m) hc
      have hct := wsum_take_succ (f := sz (wOf rs) m) hc
      have hget := dget_rd (k := Sum.inr (S [c])) hd (wKV_get (g := sz (wOf rs) m) hcm)
      have hat : atI (S t').cps.toList (idx : Int) = some c := S_atI rfl hc
      refine ⟨_, rfl, _, rfl, _, rfl, wp, xs, _, _, rfl, rfl, hxs, at_of rfl hxi, _, rfl, _, rfl, S t', _, c, rfl, rfl, txl, hat, d, _, rfl, hget, _, _, rfl, rfl, _, rfl, ite2 (fun e => ?_) (fun e => ?_)⟩
      · have hge : sz (wOf rs) m c ≤ l2 := of_decide_eq_true e
        refine ⟨_, fun _ _ h => h, ?_⟩
        refine ⟨_, rfl, _, rfl, _, rfl, wp, xs, _, _, rfl, rfl, hxs, at_of rfl hxi, _, rfl, _, rfl, S t', _, c, rfl, rfl, txl, hat, d, _, rfl, hget, _, _, rfl, rfl, ?_⟩
        refine ⟨_, rfl, _, _, rfl, rfl, ?_⟩
        exact ⟨t'.length - (idx + 1), by omega, idx + 1, _, rfl, rfl, rfl, by omega, by omega, by omega⟩
      · have hlt2 : l2 < sz (wOf rs) m c := by
          have : ¬ sz (wOf rs) m c ≤ l2 := fun h => e (decide_eq_true h)
          omega
        refine ⟨_, rfl, .inl ⟨rfl, _, lst_of ef⟩, _, rfl, _, rfl, S t', _, c, rfl, rfl, txl, hat, _, rfl, by show 2 ≤ sizeLine; decide, fun a na => ?_⟩
        have s1 : Same H2 (upd H2 a (.tup [tv [c], .int (idx : Int)])) := same_new na
        have hafo : a ≠ fo := fun z => by
          subst z
          rw [ef] at na
          cases na
        refine ⟨fo, _, _, rfl, rfl, s1 _ _ ef, by rw [List.length_map]; exact small' (by omega), ?_⟩
        have s2 : Same H (upd (upd H2 a (.tup [tv [c], .int (idx : Int)])) fo (.lst (ts.map V.ref ++ [.ref a]))) := same_mut (sm.trans s1) nf
        have tup2 : ∀ (j : Nat) (b : Addr) (x : Nat × Nat), (ts ++ [a])[j]? = some b → (st ++ [(c, idx)])[j]? = some x → (upd (upd H2 a (.tup [tv [c], .int (idx : Int)])) fo (.lst (ts.map V.ref ++ [.ref a]))) b = some (.tup [tv [x.1], .int (x.2 : Int)]) := fun j b x h1 h2 => by
          by_cases hj : j < i
          · rw [List.getElem?_append_left (by omega)] at h1 h2
            have h3 := htup j b x h1 h2
            rw [upd_ne, s1 _ _ h3]
            intro z
            subst z
            rw [ef] at h3
            cases h3
          · have ej : j = i := by
              have := (List.getElem?_eq_some_iff.mp h1).1
              rw [List.length_append, htsl] at this
              have h1 : ([a] : List Addr).length = 1 := rfl
              omega
            subst ej
            rw [List.getElem?_append_right (by omega), htsl, Nat.sub_self] at h1
            rw [List.getElem?_append_right (by omega), hstl, Nat.sub_self] at h2
            have e1 : a = b := Option.some.inj h1
            have e2 : (c, idx) = x := Option.some.inj h2
            rw [← e1, ← e2, upd_ne hafo, upd_same]
        have hmap : ts.map V.ref ++ [.ref a] = (ts ++ [a]).map V.ref := by
          rw [List.map_append]
          rfl
        have hst2 : (st ++ [(c, idx)]).length = i + 1 := by
          rw [List.length_append, hstl]
          rfl
        have hts2 : (ts ++ [a]).length = i + 1 := by
          rw [List.length_append, htsl]
          rfl
        refine ⟨_, rfl, _, rfl, wd, _, rfl, .inl (s2.seq hwds), _, _, rfl, rfl, _, rfl, ite2 (fun e2 => ?_) (fun e2 => ?_)⟩
        · have hin : i < n := by
            have := of_decide_eq_true e2
            rw [List.length_replicate] at this
            omega
          obtain ⟨m', rfl⟩ : ∃ m', m = m' + 1 := ⟨m - 1, by omega⟩
          have hrep : (List.replicate n (V.ref dw))[i]? = some (.ref dw) := by
            rw [List.getElem?_replicate, if_pos hin]
          refine ⟨_, rfl, _, rfl, wd, _, _, _, rfl, rfl, s2.seq hwds, at_of rfl hrep, _, rfl, _, rfl, S t', _, c, rfl, rfl, txl, hat, dw, _, rfl, dget_rd (k := Sum.inr (S [c])) (same_rd s2 hdw) (wordsKV_get ok hcm), ?_⟩
          refine ⟨l2, wOf rs c, st ++ [(c, idx)], ts ++ [a], _, _, rfl, s2, by rw [upd_same, hmap], hts2, hst2, tup2, .inl ⟨m', by omega, ok.wmem c hcm, by have := ok.wlen hcm; omega, h20, ?_, fun r hr => ?_⟩⟩
          · rw [show wsum (sz (wOf rs) m') (wOf rs c) = sz (wOf rs) (m' + 1) c from (wo_succ _ _ _ _).symm]
            exact hlt2
          · rw [List.append_assoc]
            refine hway _ ⟨hc, by omega, by omega, ?_⟩
            rw [← hl2]
            exact hr
        · have hin : i = n := by
            have : ¬ ((i : Int) < ((List.replicate n (V.ref dw)).length : Int)) := fun h => e2 (decide_eq_true h)
            rw [List.length_replicate] at this
            omega
          have hm0 : m = 0 := by omega
          subst hm0
          refine ⟨l2, t', st ++ [(c, idx)], ts ++ [a], _, _, rfl, s2, by rw [upd_same, hmap], hts2, hst2, tup2, .inr ⟨by omega, ?_⟩⟩
          exact hway _ ⟨rfl, hc, by omega, by omega⟩
    · obtain ⟨l', t', st, ts, y6, y7, rfl, sm, ef, htsl, hstl, htup, hor⟩ := pp
      rcases hor with ⟨m, him, _⟩ | ⟨h1, hway⟩
      · omega
      · exact ⟨_, rfl, q H' fo st sm nf ⟨ts, lst_of ef, by omega, fun j a x h1 h2 => tup_of (htup j a x h1 h2)⟩ hway⟩
/-! ### worth_ahead -/
theorem cutS_to (t : Tx) (b : Nat) : cutS (S t) none (some (b : Int)) = S (t.take b) := by
  unfold cutS
  rw [HT.sIx_nat, HT.sIx_none, S_list, S_len, List.drop_zero, Nat.sub_zero]
  congr 2
  by_cases h : b ≤ t.length
  · rw [Nat.min_eq_left h]
  · rw [Nat.min_eq_right (by omega), List.take_of_length_le (Nat.le_refl _), List.take_of_length_le (by omega)]
def spWorthAhead (K : PySem.W.Frag) : Sp := fun vs H Q _ => ∃ (wd wp wy : Addr) (n : Nat) (rs : Rls) (g : Nat → Int) (t : Tx) (l : Int) (s : List (Nat × Nat)), vs = [.ref wd, .ref wp, tv t, .ref wy] ∧ WordsAt K H wd n rs ∧ WorthsAt K H wp n (keysOf rs) (wo (wOf rs) g) ∧ WayAt K H wy s ∧ RlsOk rs ∧ n ≤ 300 ∧ t.length ≤ 1000 ∧ (∀ c ∈ t, c ∈ keysOf rs) ∧
  WayOk (wOf rs) n t l s ∧ ∀ H', Same H H' → Q (.int (aheadM (wOf rs) g n t s)) H'
theorem c_worth_ahead (T : Facts K mg) : C8.Cal P w K mg base 1 "worth_ahead" (spWorthAhead K) [] := by
  refine cal T.d_worth_ahead sc_worth_ahead (fun vs H Q E h => ?_) (fun f cdv A outer s H vs Q E hr h => ?_)
  · obtain ⟨wd, wp, wy, n, rs, g, t, l, s, rfl, _⟩ := h
    rfl
  · obtain ⟨wd, wp, wy, n, rs, g, t, l, s, rfl, hwd, hwp, ⟨ts, hwy, htsl, htup⟩, ok, hn, htl, hm, hway, q⟩ := h
    obtain ⟨_, _, _, _, _, hsl, _⟩ := way_row hway
    obtain ⟨dw, hwds, hdw⟩ := id hwd
    refine ⟨_, (pss_cons (ps_set (i := 4) sc_worth_ahead.nd rfl (Or.inl rfl) pe_int)
      (pss_cons (ps_set (i := 5) sc_worth_ahead.nd rfl (Or.inl rfl) (pv 2))
      (pss_cons (ps_for PassesOwn.never rfl (pi_enum (by rfl) T.b_enumerate (pa_cons (pv 3) pa_nil)) (pg_tup rfl (pgs_cons (pg_name (i := 6) sc_worth_ahead.nd rfl (Or.inr rfl)) (pgs_cons (pg_tup rfl (pgs_cons (pg_name (i := 7) sc_worth_ahead.nd rfl (Or.inl rfl)) (pgs_cons (pg_name (i := 8) sc_worth_ahead.nd rfl (Or.inl rfl)) pgs_nil))) pgs_nil)))
      (pss_cons (ps_set (i := 4) sc_worth_ahead.nd rfl (Or.inl rfl) (pe_op op_add (pv 4) (pe_callB (r := rSum K) (cr_sum rfl) (by rfl) T.b_sum (by decide +kernel) (pa_cons (pe_lc (own := [("sign", 9)]) (g := gName 9) (tt := tYes) rfl sc_worth_ahead.nd (pi_str (pe_slice (r := rSlS) sl_str (pv 5) po_none (po_some (pv 8)))) (blkOk_by (N := ["words", "worths", "first", "way", "total", "text", "age", "letter", "index", "sign"]) (sc := defScope s_worth_ahead) (by decide +kernel)) (fun _ _ _ _ _ => pg_name (i := 9) sc_worth_ahead.nd rfl (Or.inl rfl)) (fun _ _ _ _ _ => pts_nil) (fun _ _ _ _ _ => (pe_dget (hu_of hr) (pe_ix (r := rIxL K) ix_list (pv 1) (pv 6) (fun _ _ => rfl)) (pv 9) (fun _ _ => rfl)))) pa_nil))))
        (pss_one (ps_if (pt_cmpR op_lt (pv 6) (pe_callB call_len_seq (by rfl) T.b_len PySem.boot_len (pa_cons (pv 0) pa_nil)) (nomark _))
        (pss_one (ps_set (i := 5) sc_worth_ahead.nd rfl (Or.inl rfl) (pe_dget (hu_of hr) (pe_ix (r := rIxL K) ix_list (pv 0) (pv 6) (fun _ _ => rfl)) (pv 7) (fun _ _ => rfl))))
        pss_nil))))
      (pss_one (ps_ret (pv 4)))))), ?_⟩
    refine ⟨_, rfl, ?_⟩
    refine ⟨_, rfl, wy, _, rfl, hwy, ?_⟩
    refine for_it (walk_enum (xs := ts.map V.ref)) (fun i σ H' => ∃ (acc : Int) (t' : Tx) (y6 y7 y8 : Option V), σ = [some (.ref wd), some (.ref wp), some (tv t), some (.ref wy), some (.int acc), some (tv t'), y6, y7, y8, none] ∧ Same H H' ∧
        ((∃ m l', i + m = n ∧ t'.length ≤ 1000 ∧ (∀ c ∈ t', c ∈ keysOf rs) ∧ WayOk (wOf rs) m t' l' (s.drop i) ∧ acc + aheadM (wOf rs) g m t' (s.drop i) = aheadM (wOf rs) g n t s) ∨ (i = n + 1 ∧ acc = aheadM (wOf rs) g n t s)))
      ⟨0, t, none, none, none, rfl, .refl _, .inl ⟨n, l, by omega, htl, hm, by rw [List.drop_zero]; exact hway, by rw [List.drop_zero]; omega⟩⟩ (fun i σ H' _ pp => ?_) (fun i x σ H' H'' hlt pp y => ?_) (fun σ H' pp => ?_)
    · obtain ⟨_, _, _, _, _, _, sm, _⟩ := pp
      exact sm.seq hwy
    · obtain ⟨acc, t', y6, y7, y8, rfl, sm, hor⟩ := pp
      obtain ⟨T', x1, x2, rfl, nT, rfl, e1, e2⟩ := y
      have ex1 : x1 = .int ((i : Nat) : Int) := (Option.some.inj e1).symm
      subst ex1
      have e2' : (ts.map V.ref)[i]? = some x2 := e2
      rw [List.getElem?_map, Option.map_eq_some_iff] at e2'
      obtain ⟨a, ha, rfl⟩ := e2'
      have hil : i < s.length := by
        have := (List.getElem?_eq_some_iff.mp ha).1
        omega
      have hsi : s[i]? = some s[i] := List.getElem?_eq_getElem hil
      have hdrop : s.drop i = s[i] :: s.drop (i + 1) := (List.getElem_cons_drop hil).symm
      generalize s[i] = x at hsi hdrop
      obtain ⟨c, idx⟩ := x
      have sT : Same H' (upd H' T' (.tup [.int ((i : Nat) : Int), .ref a])) := same_new nT
      have s0 := sm.trans sT
      rcases hor with ⟨m, l', him, htl', hm', hw', heq⟩ | ⟨h1, _⟩
      rotate_left
      · omega
      rw [hdrop] at hw' heq
      have htm : t'[idx]? = some c := by
        cases m with
        | zero => exact hw'.2.1
        | succ m => exact hw'.1
      have hcm := hm' c (List.mem_of_getElem? htm)
      obtain ⟨xs, d, hxs, hxi, hxsl, hd⟩ := (hwp.same s0).at (j := i) (by omega)
      have enm : n - i = m := by omega
      rw [enm] at hd
      refine ⟨T', _, rfl, tup_of upd_same, rfl, _, _, rfl, _, _, rfl, a, _, rfl, same_tup s0 (htup i a _ ha hsi), rfl, _, _, rfl, _, _, rfl, rfl, rfl, ?_⟩
      refine ⟨_, rfl, _, rfl, _, rfl, _, rfl, S t', rfl, small (by rw [S_len]; omega), ?_⟩
      rw [cutS_to]
      refine ⟨_, rfl, fun D hD => ?_⟩
      refine lcn_val (walk_str (z := S (t'.take idx))) (fun k => .int (wo (wOf rs) g m (((t'.take idx)[k]?).getD 0))) (by rw [S_size, List.length_take]; omega) hD (fun _ _ => trivial) (fun _ => rfl) (fun k x H6 H7 Qc2 hk s6 y q2 => ?_) (fun H6 s6 hd6 => ?_)
      · obtain ⟨rfl, c2, hc2, rfl⟩ := y
        rw [S_get] at hc2
        refine ⟨_, rfl, _, rfl, wp, xs, _, _, rfl, rfl, s6.seq hxs, at_of rfl hxi, _, rfl, d, _, rfl, dget_rd (k := Sum.inr (S [c2])) (same_rd s6 hd) (wKV_get (hm' c2 (List.mem_of_mem_take (List.mem_of_getElem? hc2)))), ?_⟩
        have := q2 H7 (Same.refl _)
        rw [hc2] at this
        exact this
      · have e6 : ((List.range (S (t'.take idx)).cps.size).map fun k => V.int (wo (wOf rs) g m (((t'.take idx)[k]?).getD 0))) = ((t'.take idx).map (wo (wOf rs) g m)).map V.int := by
          rw [List.map_map, S_size]
          refine range_get _ _ _ fun k c2 hc2 => ?_
          rw [hc2]
          rfl
        rw [e6] at hd6
        have s16 := s0.trans s6
        refine ⟨D, _, rfl, lst_of hd6, _, _, rfl, rfl, ?_⟩
        refine ⟨_, rfl, _, rfl, wd, _, rfl, .inl (s16.seq hwds), _, _, rfl, rfl, _, rfl, ite2 (fun e2 => ?_) (fun e2 => ?_)⟩
        · have hin : i < n := by
            have := of_decide_eq_true e2
            rw [List.length_replicate] at this
            omega
          obtain ⟨m', rfl⟩ : ∃ m', m = m' + 1 := ⟨m - 1, by omega⟩
          have hrep : (List.replicate n (V.ref dw))[i]? = some (.ref dw) := by
            rw [List.getElem?_replicate, if_pos hin]
          refine ⟨_, rfl, _, rfl, wd, _, _, _, rfl, rfl, s16.seq hwds, at_of rfl hrep, _, rfl, dw, _, rfl, dget_rd (k := Sum.inr (S [c])) (same_rd s16 hdw) (wordsKV_get ok hcm), ?_⟩
          refine ⟨_, wOf rs c, _, _, _, rfl, s16, .inl ⟨m', _, by omega, by have := ok.wlen hcm; omega, ok.wmem c hcm, hw'.2.2.2, ?_⟩⟩
          have h3 : aheadM (wOf rs) g (m' + 1) t' ((c, idx) :: s.drop (i + 1)) = wsum (wo (wOf rs) g (m' + 1)) (t'.take idx) + aheadM (wOf rs) g m' (wOf rs c) (s.drop (i + 1)) := rfl
          have h4 : ((t'.take idx).map (wo (wOf rs) g (m' + 1))).sum = wsum (wo (wOf rs) g (m' + 1)) (t'.take idx) := rfl
          omega
        · have hin : i = n := by
            have : ¬ ((i : Int) < ((List.replicate n (V.ref dw)).length : Int)) := fun h => e2 (decide_eq_true h)
            rw [List.length_replicate] at this
            omega
          have hm0 : m = 0 := by omega
          subst hm0
          refine ⟨_, t', _, _, _, rfl, s16, .inr ⟨by omega, ?_⟩⟩
          have h3 : aheadM (wOf rs) g 0 t' ((c, idx) :: s.drop (i + 1)) = wsum (wo (wOf rs) g 0) (t'.take idx) := rfl
          have h4 : ((t'.take idx).map (wo (wOf rs) g 0)).sum = wsum (wo (wOf rs) g 0) (t'.take idx) := rfl
          omega
    · obtain ⟨acc, t', y6, y7, y8, rfl, sm, hor⟩ := pp
      rw [List.length_map] at hor
      rcases hor with ⟨m, _, him, _⟩ | ⟨h1, rfl⟩
      · omega
      · exact ⟨_, rfl, q H' sm⟩
end
end Lg
/-! layers.py walked: cut_out -/
namespace Lg
open PySem PySem.Spec PyProof.Rows L2
/-- what of the last row is still to come: the pile, its top first -/
def remM (w : Nat → Tx) (n : Nat) : List Tx → Tx
  | [] => []
  | t :: r => rowN w (n - r.length) t ++ remM w n r
def cst : Nat → Nat
  | 0 => 1
  | k + 1 => 2 + 6 * cst k
def mesM (n : Nat) : List Tx → Nat
  | [] => 0
  | t :: r => 1 + t.length * cst (n - r.length) + mesM n r
theorem cst_pos : ∀ k, 1 ≤ cst k
  | 0 => Nat.le_refl _
  | k + 1 => by
    show 1 ≤ 2 + 6 * cst k
    omega
/-- the pile as it stands: a tuple (age, text) each, the top last -/
def PileAt (H : Hp) (ts : List Addr) (st : List Tx) : Prop := ts.length = st.length ∧ ∀ (i : Nat) (a : Addr) (t : Tx), ts[i]? = some a → st.reverse[i]? = some t → H a = some (.tup [.int (i : Int), tv t])
theorem PileAt.upd {H : Hp} {ts : List Addr} {st : List Tx} (h : PileAt H ts st) {p : Addr} {o : HO} {xs : List V} (hp : H p = some (.lst xs)) : PileAt (upd H p o) ts st := by
  refine ⟨h.1, fun i a t h1 h2 => ?_⟩
  have h3 := h.2 i a t h1 h2
  rw [upd_ne]
  · exact h3
  · intro z
    subst z
    rw [hp] at h3
    cases h3
theorem PileAt.same {H H' : Hp} {ts : List Addr} {st : List Tx} (h : PileAt H ts st) (e : Same H H') : PileAt H' ts st := ⟨h.1, fun i a t h1 h2 => e _ _ (h.2 i a t h1 h2)⟩
theorem PileAt.push {H : Hp} {ts : List Addr} {st : List Tx} (h : PileAt H ts st) {a : Addr} {t : Tx} (ha : H a = some (.tup [.int (st.length : Int), tv t])) : PileAt H (ts ++ [a]) (t :: st) := by
  refine ⟨by rw [List.length_append, h.1]; rfl, fun i b u h1 h2 => ?_⟩
  rw [List.reverse_cons] at h2
  by_cases hi : i < ts.length
  · rw [List.getElem?_append_left hi] at h1
    rw [List.getElem?_append_left (by rw [List.length_reverse, ← h.1]; exact hi)] at h2
    exact h.2 i b u h1 h2
  · have ei : i = ts.length := by
      have := (List.getElem?_eq_some_iff.mp h1).1
      rw [List.length_append] at this
      have h1 : ([a] : List Addr).length = 1 := rfl
      omega
    subst ei
    rw [List.getElem?_append_right (Nat.le_refl _), Nat.sub_self] at h1
    rw [List.getElem?_append_right (by rw [List.length_reverse, h.1]; exact Nat.le_refl _), List.length_reverse, h.1, Nat.sub_self] at h2
    have e1 : a = b := Option.some.inj h1
    have e2 : t = u := Option.some.inj h2
    rw [← e1, ← e2, ha, h.1]
theorem PileAt.pop {H : Hp} {ts : List Addr} {st : List Tx} {t : Tx} (h : PileAt H ts (t :: st)) : ∃ (ts' : List Addr) (a : Addr), ts = ts' ++ [a] ∧ H a = some (.tup [.int (st.length : Int), tv t]) ∧ PileAt H ts' st := by
  have hl := h.1
  rw [List.length_cons] at hl
  have hne : ts ≠ [] := by
    intro z
    subst z
    simp at hl
  have e := (List.dropLast_concat_getLast hne).symm
  refine ⟨ts.dropLast, ts.getLast hne, e, ?_, ?_⟩
  · refine h.2 st.length _ _ ?_ ?_
    · rw [List.getLast_eq_getElem, List.getElem?_eq_getElem (by omega)]
      congr 2
      omega
    · rw [List.reverse_cons, List.getElem?_append_right (by rw [List.length_reverse]; exact Nat.le_refl _), List.length_reverse, Nat.sub_self]
      rfl
  · refine ⟨by rw [List.length_dropLast]; omega, fun i a u h1 h2 => ?_⟩
    have hi : i < st.length := by
      have := (List.getElem?_eq_some_iff.mp h2).1
      rw [List.length_reverse] at this
      exact this
    refine h.2 i a u ?_ ?_
    · rw [e, List.getElem?_append_left (by rw [List.length_dropLast]; omega)]
      exact h1
    · rw [List.reverse_cons, List.getElem?_append_left (by rw [List.length_reverse]; exact hi)]
      exact h2
/-! what is compared with [] -/
def pileD : Nat → List Tx → List PyData
  | _, [] => []
  | i, t :: r => .tuple [.int (i : Int), .str (S t)] :: pileD (i + 1) r
theorem pileD_dp {K : PySem.W.Frag} {H : Hp} : ∀ (i : Nat) (ts : List Addr) (us : List Tx), ts.length = us.length → (∀ (j : Nat) (a : Addr) (t : Tx), ts[j]? = some a → us[j]? = some t → H a = some (.tup [.int ((i + j : Nat) : Int), tv t])) → DpAll K H (ts.map V.ref) (pileD i us)
  | i, [], [], _, _ => .nil
  | i, [], _ :: _, h, _ => by simp at h
  | i, _ :: _, [], h, _ => by simp at h
  | i, a :: ts, t :: us, hl, h => by
    refine .cons (.tup (tup_of (h 0 a t rfl rfl)) (.cons (.int _) (.cons (.str _) .nil))) (pileD_dp (i + 1) ts us (by simpa using hl) fun j b u h1 h2 => ?_)
    have := h (j + 1) b u h1 h2
    rw [show i + (j + 1) = i + 1 + j by omega] at this
    exact this
theorem pileD_lay : ∀ (i : Nat) (us : List Tx), (∀ t ∈ us, ∀ c ∈ t, c ≤ 122) → PyData.canLayAll0 (pileD i us) = true
  | i, [], _ => by simp [pileD, PyData.canLayAll0]
  | i, t :: us, h => by
    have ih := pileD_lay (i + 1) us fun u hu => h u (List.mem_cons_of_mem _ hu)
    have ht : PyData.strOk (S t) = true := by
      unfold PyData.strOk
      rw [Array.all_eq_true']
      intro c hc
      have : c ∈ t := by simpa using hc
      have := h t List.mem_cons_self c this
      exact decide_eq_true (by omega)
    simp [pileD, PyData.canLayAll0, PyData.canLay0, ih, ht]
theorem pileD_depth : ∀ (i : Nat) (us : List Tx), PyData.depthAll (pileD i us) ≤ 1
  | i, [] => by simp [pileD, PyData.depthAll]
  | i, t :: us => by
    have ih := pileD_depth (i + 1) us
    simp [pileD, PyData.depthAll, PyData.depth]
    omega
theorem pileD_shaped (i : Nat) (us : List Tx) (h : ∀ t ∈ us, ∀ c ∈ t, c ≤ 122) : SeqAt.shaped (.list (pileD i us)) = true := by
  have h1 := pileD_depth i us
  show (PyData.canLay0 (.list (pileD i us)) && decide (PyData.depth (.list (pileD i us)) ≤ 64)) = true
  rw [Bool.and_eq_true]
  refine ⟨by simp only [PyData.canLay0]; exact pileD_lay i us h, decide_eq_true ?_⟩
  simp only [PyData.depth]
  omega
theorem pileD_eqv (i : Nat) (us : List Tx) : PyData.eqv (.list (pileD i us)) (.list []) = us.isEmpty := by
  cases us with
  | nil => simp [pileD, PyData.eqv, PyData.eqvAll]
  | cons t r => simp [pileD, PyData.eqv, PyData.eqvAll]
theorem one_text (u : Tx) : (u.map fun c => tv [c]) = (u.map fun c => S [c]).map V.str := by
  rw [List.map_map]
  rfl
theorem ones_len (u : Tx) : ((u.map fun c => S [c]).map (·.length)).sum = u.length := by
  rw [List.map_map]
  induction u with
  | nil => rfl
  | cons c u ih =>
    rw [List.map_cons, List.sum_cons, ih, List.length_cons]
    exact Nat.add_comm _ _
theorem flat_ones (u : Tx) : (u.map fun c => [c]).flatten = u := by
  induction u with
  | nil => rfl
  | cons c u ih => rw [List.map_cons, List.flatten_cons, ih]; rfl
theorem join_ones (u : Tx) : Txt.join (S []) (u.map fun c => S [c]) = S u := by
  have h := join_S (u.map fun c => [c])
  rw [List.map_map, flat_ones] at h
  exact h
theorem cutS_from1 (c : Nat) (t : Tx) : cutS (S (c :: t)) (some 1) none = S t := by
  unfold cutS
  rw [show HT.sIx (S (c :: t)).length 0 (some 1) = min 1 (S (c :: t)).length from HT.sIx_nat _ 0 1, HT.sIx_none, S_list, S_len, List.length_cons]
  have e : min 1 (t.length + 1) = 1 := by omega
  rw [e]
  show S ((List.drop 1 (c :: t)).take (t.length + 1 - 1)) = _
  rw [Nat.add_sub_cancel]
  show S (t.take t.length) = _
  rw [List.take_length]
section
variable {P : Program} {w : World} {K : PySem.W.Frag} {mg : Str → Option Value} {base : Heap}
def spCutOut (K : PySem.W.Frag) : Sp := fun vs H Q _ => ∃ (wd wp : Addr) (n : Nat) (rs : Rls) (t : Tx) (st many : Nat), vs = [.ref wd, .ref wp, tv t, .int (st : Int), .int (many : Int)] ∧ WordsAt K H wd n rs ∧ WorthsAt K H wp n (keysOf rs) (sz (wOf rs)) ∧ RlsOk rs ∧ n ≤ 300 ∧ t.length ≤ 1000 ∧ (∀ c ∈ t, c ∈ keysOf rs) ∧ many ≤ 100 ∧
  ∀ H', Same H H' → Q (tv (((rowN (wOf rs) n t).drop st).take many)) H'
theorem c_cut_out (T : Facts K mg) : C8.Cal P w K mg base 1 "cut_out" (spCutOut K) [] := by
  refine cal T.d_cut_out sc_cut_out (fun vs H Q E h => ?_) (fun f cdv A outer s H vs Q E hr h => ?_)
  · obtain ⟨wd, wp, n, rs, t, st, many, rfl, _⟩ := h
    rfl
  · obtain ⟨wd, wp, n, rs, t, st0, many, rfl, hwd, hwp, ok, hn, htl, hm, hmany, q⟩ := h
    obtain ⟨dw, hwds, hdw⟩ := id hwd
    refine ⟨_, (pss_cons (ps_set (i := 5) sc_cut_out.nd rfl (Or.inl rfl) (pe_lst pa_nil))
      (pss_cons (ps_set (i := 6) sc_cut_out.nd rfl (Or.inl rfl) (pe_lst (pa_cons (pe_tup (pa_cons pe_int (pa_cons (pv 2) pa_nil))) pa_nil)))
      (pss_cons (ps_while PassesOwn.never (PW.pt (pw_and (pt_cmpR (op_neD hr.units) (pv 6) (pe_lst pa_nil) (nomark _)) (pw_and1 (pt_cmpR op_lt (pe_callB call_len_seq (by rfl) T.b_len PySem.boot_len (pa_cons (pv 5) pa_nil)) (pv 4) (nomark _)))))
      (pss_cons (ps_asg (pe_bm0 PySem.F.plainAttrs_list PySem.F.slot_list_pop PySem.F.type_list_pop mt_pop (pv 6)) (pg_tup rfl (pgs_cons (pg_name (i := 7) sc_cut_out.nd rfl (Or.inl rfl)) (pgs_cons (pg_name (i := 8) sc_cut_out.nd rfl (Or.inl rfl)) pgs_nil))))
        (pss_cons (ps_if (pt_cmpR op_eq (pv 8) pe_str (nomark _))
        (pss_one ps_continue)
        pss_nil)
        (pss_cons (ps_expr (pe_bm PySem.F.plainAttrs_list PySem.F.slot_list_append PySem.F.type_list_append mt_append (pv 6) (pa_cons (pe_tup (pa_cons (pv 7) (pa_cons (pe_slice (r := rSlS) sl_str (pv 8) (po_some pe_int) po_none) pa_nil))) pa_nil)))
        (pss_cons (ps_set (i := 9) sc_cut_out.nd rfl (Or.inl rfl) (pe_dget (hu_of hr) (pe_ix (r := rIxL K) ix_list (pv 1) (pv 7) (fun _ _ => rfl)) (pe_ix (r := rIxS) ix_str (pv 8) pe_int (fun _ _ => rfl)) (fun _ _ => rfl)))
        (pss_one (ps_if (pt_cmpR op_le (pv 9) (pv 3) (nomark _))
        (pss_one (ps_set (i := 3) sc_cut_out.nd rfl (Or.inl rfl) (pe_op op_sub (pv 3) (pv 9))))
        (pss_one (ps_if (pt_cmpR op_eq (pv 7) (pe_callB call_len_seq (by rfl) T.b_len PySem.boot_len (pa_cons (pv 0) pa_nil)) (nomark _))
          (pss_one (ps_expr (pe_bm PySem.F.plainAttrs_list PySem.F.slot_list_append PySem.F.type_list_append mt_append (pv 5) (pa_cons (pe_ix (r := rIxS) ix_str (pv 8) pe_int (fun _ _ => rfl)) pa_nil))))
          (pss_one (ps_expr (pe_bm PySem.F.plainAttrs_list PySem.F.slot_list_append PySem.F.type_list_append mt_append (pv 6) (pa_cons (pe_tup (pa_cons (pe_op op_add (pv 7) pe_int) (pa_cons (pe_dget (hu_of hr) (pe_ix (r := rIxL K) ix_list (pv 0) (pv 7) (fun _ _ => rfl)) (pe_ix (r := rIxS) ix_str (pv 8) pe_int (fun _ _ => rfl)) (fun _ _ => rfl)) pa_nil))) pa_nil)))))))))))))
      (pss_one (ps_ret (pe_join pe_str (pv 5))))))), ?_⟩
    refine ⟨Nat.zero_le _, fun fo nf => ?_⟩
    refine ⟨_, rfl, by show 2 ≤ sizeLine; decide, fun a0 na0 => ⟨by show 1 ≤ sizeLine; decide, fun pl npl => ?_⟩⟩
    have s1 : Same H (upd H fo (.lst [])) := same_new nf
    have s2 : Same (upd H fo (.lst [])) (upd (upd H fo (.lst [])) a0 (.tup [.int 0, tv t])) := same_new na0
    have npl0 : H pl = none := (s1.trans s2).free npl
    have hfp : fo ≠ pl := fun z => by
      subst z
      rw [s2 _ _ upd_same] at npl
      cases npl
    generalize htg : ((rowN (wOf rs) n t).drop st0).take many = tg at q
    refine ⟨fun m σ H' => ∃ (s' : Nat) (fd : Tx) (st : List Tx) (ts : List Addr) (y7 y8 y9 : Option V), σ = [some (.ref wd), some (.ref wp), some (tv t), some (.int (s' : Int)), some (.int (many : Int)), some (.ref fo), some (.ref pl), y7, y8, y9] ∧ m = mesM n st ∧ Same H H' ∧
        H' fo = some (.lst (fd.map fun c => tv [c])) ∧ H' pl = some (.lst (ts.map V.ref)) ∧ PileAt H' ts st ∧ st.length ≤ n + 1 ∧ (∀ u ∈ st, u.length ≤ 1000 ∧ ∀ c ∈ u, c ∈ keysOf rs) ∧ fd.length ≤ many ∧ fd ++ ((remM (wOf rs) n st).drop s').take (many - fd.length) = tg,
      ⟨_, st0, [], [t], [a0], none, none, none, rfl, rfl, (s1.trans s2).trans (same_new npl), ?_, upd_same, ?_, by show 1 ≤ n + 1; omega, ?_, Nat.zero_le _, ?_⟩, fun m σ H' hW => ?_⟩
    · rw [upd_ne hfp]
      exact s2 _ _ upd_same
    · refine ⟨rfl, fun i a u h1 h2 => ?_⟩
      have h0 : i = 0 := by
        have := (List.getElem?_eq_some_iff.mp h1).1
        have h1 : ([a0] : List Addr).length = 1 := rfl
        omega
      subst h0
      have e1 : a0 = a := Option.some.inj h1
      have e2 : t = u := Option.some.inj h2
      rw [← e1, ← e2]
      exact (same_new npl) _ _ upd_same
    · intro u hu
      rw [List.mem_singleton.mp hu]
      exact ⟨htl, hm⟩
    · show [] ++ ((rowN (wOf rs) (n - 0) t ++ []).drop st0).take (many - 0) = tg
      rw [List.append_nil, List.nil_append]
      exact htg
    obtain ⟨s', fd, st, ts, y7, y8, y9, rfl, rfl, sm, ef, ep, pile, hstl, hst, hfd, heq⟩ := hW
    have fin : (st = [] ∨ many ≤ fd.length) → ∀ H2, Same H' H2 → tRet (tM1 (fun x xs H Q => ∃ a p, ∃ ys : List Str, x = .str a ∧ xs = [.ref p] ∧ (SqL K H p (ys.map V.str) ∨ SqT K H p (ys.map V.str)) ∧ (ys.map (·.length)).sum + ys.length * a.length ≤ 16777216 ∧ Q (.str (Txt.join a ys)) H) (tC (.str (Str.ofString ""))) (tVar 5))
        { nx := fun _ H' => Q .non H', rt := Q } [some (.ref wd), some (.ref wp), some (tv t), some (.int (s' : Int)), some (.int (many : Int)), some (.ref fo), some (.ref pl), y7, y8, y9] H2 := fun hor H2 s2 => by
      have e : fd = tg := by
        rcases hor with h | h
        · subst h
          have : ((remM (wOf rs) n []).drop s').take (many - fd.length) = [] := by
            show (([] : Tx).drop s').take _ = []
            simp
          rw [this, List.append_nil] at heq
          exact heq
        · have : many - fd.length = 0 := by omega
          rw [this, List.take_zero, List.append_nil] at heq
          exact heq
      have ef2 := s2 _ _ ef
      rw [one_text] at ef2
      refine ⟨⟨_, rfl⟩, _, rfl, S [], fo, _, rfl, rfl, .inl (lst_of ef2), ?_, ?_⟩
      · rw [ones_len]
        show _ + _ * 0 ≤ _
        omega
      · rw [join_ones, e]
        exact q H2 (sm.trans s2)
    have hlet : ∀ u ∈ st.reverse, ∀ c ∈ u, c ≤ 122 := fun u hu c hc => (ok.sign c ((hst u (List.mem_reverse.mp hu)).2 c hc)).2
    -- while pile != [] and ..
    refine ⟨_, rfl, Nat.zero_le _, fun e ne => ?_⟩
    have se : Same H' (upd H' e (.lst [])) := same_new ne
    have pile2 := pile.same se
    refine ⟨.list (pileD 0 st.reverse), .list [], .lst (lst_of (se _ _ ep)) (pileD_dp 0 ts st.reverse (by rw [List.length_reverse]; exact pile.1) fun j a u h1 h2 => by rw [Nat.zero_add]; exact pile2.2 j a u h1 h2), .lst (lst_of upd_same) .nil, pileD_shaped 0 _ hlet, by decide +kernel, _, rfl, ?_⟩
    rw [pileD_eqv]
    cases st with
    | nil => exact iteF (fin (.inl rfl) _ se)
    | cons t1 st =>
    have hne : (!(t1 :: st).reverse.isEmpty) = true := by simp
    rw [hne]
    refine iteT ?_
    have ef2 := se _ _ ef
    have ep2 := se _ _ ep
    generalize upd H' e (.lst []) = H2 at se pile2 ef2 ep2
    have s02 := sm.trans se
    refine ⟨_, rfl, fo, _, rfl, .inl (lst_of ef2), _, rfl, _, _, rfl, rfl, _, rfl, ite2 (fun e1 => ?_) (fun e1 => ?_)⟩
    rotate_left
    · refine fin (.inr ?_) H2 se
      have : ¬ (((fd.map fun c => tv [c]).length : Int) < (many : Int)) := fun h => e1 (decide_eq_true h)
      rw [List.length_map] at this
      omega
    have hfdl : fd.length < many := by
      have := of_decide_eq_true e1
      rw [List.length_map] at this
      omega
    obtain ⟨ts', a, rfl, ha, pile3⟩ := pile2.pop
    have hk : st.length ≤ n := by
      rw [List.length_cons] at hstl
      omega
    have hsl := pile3.1
    refine ⟨_, fun _ _ h => h, ?_⟩
    have hxl : ((ts' ++ [a]).map V.ref)[((ts' ++ [a]).map V.ref).length - 1]? = some (.ref a) := by
      have h : ((ts' ++ [a]).map V.ref) = ts'.map V.ref ++ [.ref a] := by
        rw [List.map_append]
        rfl
      rw [h, List.length_append]
      show (ts'.map V.ref ++ [.ref a])[(ts'.map V.ref).length + 1 - 1]? = _
      rw [Nat.add_sub_cancel, List.getElem?_append_right (Nat.le_refl _), Nat.sub_self]
      rfl
    have hdl : ((ts' ++ [a]).map V.ref).dropLast = ts'.map V.ref := by
      rw [List.map_append]
      simp
    refine ⟨_, rfl, .inl ⟨rfl, _, lst_of ep2⟩, pl, _, _, rfl, rfl, ep2, hxl, ?_⟩
    rw [hdl]
    have hapl : a ≠ pl := fun z => by
      subst z
      rw [ep2] at ha
      cases ha
    have s3 : Same H (upd H2 pl (.lst (ts'.map V.ref))) := same_mut s02 npl0
    have ef3 : (upd H2 pl (.lst (ts'.map V.ref))) fo = some (.lst (fd.map fun c => tv [c])) := by
      rw [upd_ne hfp]
      exact ef2
    have ep3 : (upd H2 pl (.lst (ts'.map V.ref))) pl = some (.lst (ts'.map V.ref)) := upd_same
    have pile4 : PileAt (upd H2 pl (.lst (ts'.map V.ref))) ts' st := pile3.upd ep2
    have ha3 : (upd H2 pl (.lst (ts'.map V.ref))) a = some (.tup [.int (st.length : Int), tv t1]) := by
      rw [upd_ne hapl]
      exact ha
    generalize upd H2 pl (.lst (ts'.map V.ref)) = H3 at s3 ef3 ep3 pile4 ha3
    have hst1 := hst t1 List.mem_cons_self
    have hst2 : ∀ u ∈ st, u.length ≤ 1000 ∧ ∀ c ∈ u, c ∈ keysOf rs := fun u hu => hst u (List.mem_cons_of_mem _ hu)
    refine ⟨a, _, rfl, tup_of ha3, rfl, _, _, rfl, _, _, rfl, rfl, ?_⟩
    refine ⟨_, rfl, rfl, _, rfl, ite2 (fun e2 => ?_) (fun e2 => ?_)⟩
    · -- an empty text
      have et : t1 = [] := tv_inj (of_decide_eq_true e2)
      subst et
      refine ⟨mesM n st, ?_, s', fd, st, ts', _, _, _, rfl, rfl, s3, ef3, ep3, pile4, by omega, hst2, hfd, ?_⟩
      · show mesM n st < 1 + 0 * _ + mesM n st
        omega
      · have : remM (wOf rs) n ([] :: st) = remM (wOf rs) n st := by
          show rowN _ _ [] ++ _ = _
          rw [rowN_nil, List.nil_append]
        rw [this] at heq
        exact heq
    cases t1 with
    | nil => exact absurd (decide_eq_true rfl) e2
    | cons c t1 =>
    have hcm := hst1.2 c List.mem_cons_self
    have htm := fun d hd => hst1.2 d (List.mem_cons_of_mem c hd)
    have htl1 : t1.length ≤ 1000 := by
      have := hst1.1
      rw [List.length_cons] at this
      omega
    have txl : (S (c :: t1)).length ≤ sizeLine := small (by rw [S_len]; have := hst1.1; omega)
    have hat : atI (S (c :: t1)).cps.toList 0 = some c := S_atI (i := 0) rfl rfl
    -- pile.append((age, text[1:]))
    refine ⟨_, rfl, .inl ⟨rfl, _, lst_of ep3⟩, _, rfl, _, rfl, 1, rfl, S (c :: t1), rfl, txl, by show 2 ≤ sizeLine; decide, fun a2 na2 => ?_⟩
    rw [cutS_from1]
    have s4 : Same H3 (upd H3 a2 (.tup [.int (st.length : Int), tv t1])) := same_new na2
    have ha2 : (upd H3 a2 (.tup [.int (st.length : Int), tv t1])) a2 = some (.tup [.int (st.length : Int), tv t1]) := upd_same
    have ef4 := s4 _ _ ef3
    have ep4 := s4 _ _ ep3
    have pile5 := (pile4.same s4).push ha2
    generalize upd H3 a2 (.tup [.int (st.length : Int), tv t1]) = H4 at s4 ef4 ep4 pile5
    refine ⟨pl, _, _, rfl, rfl, ep4, by rw [List.length_map]; exact small' (by omega), ?_⟩
    have hmap : ts'.map V.ref ++ [.ref a2] = (ts' ++ [a2]).map V.ref := by
      rw [List.map_append]
      rfl
    rw [hmap]
    have s5 : Same H (upd H4 pl (.lst ((ts' ++ [a2]).map V.ref))) := same_mut (s3.trans s4) npl0
    have ef5 : (upd H4 pl (.lst ((ts' ++ [a2]).map V.ref))) fo = some (.lst (fd.map fun c => tv [c])) := by
      rw [upd_ne hfp]
      exact ef4
    have ep5 : (upd H4 pl (.lst ((ts' ++ [a2]).map V.ref))) pl = some (.lst ((ts' ++ [a2]).map V.ref)) := upd_same
    have pile6 : PileAt (upd H4 pl (.lst ((ts' ++ [a2]).map V.ref))) (ts' ++ [a2]) (t1 :: st) := pile5.upd ep4
    generalize upd H4 pl (.lst ((ts' ++ [a2]).map V.ref)) = H5 at s5 ef5 ep5 pile6
    obtain ⟨xs, d, hxs, hxi, hxsl, hd⟩ := (hwp.same s5).at (j := st.length) hk
    have hget := dget_rd (k := Sum.inr (S [c])) hd (wKV_get (g := sz (wOf rs) (n - st.length)) hcm)
    -- size = sizes[age][text[0]]
    refine ⟨_, rfl, _, rfl, wp, xs, _, _, rfl, rfl, hxs, at_of rfl hxi, _, rfl, S (c :: t1), _, c, rfl, rfl, txl, hat, d, _, rfl, hget, ?_⟩
    have hst3 : ∀ u ∈ t1 :: st, u.length ≤ 1000 ∧ ∀ c ∈ u, c ∈ keysOf rs := fun u hu => by
      rcases List.mem_cons.mp hu with h | h
      · rw [h]
        exact ⟨htl1, htm⟩
      · exact hst2 u h
    have hrem : remM (wOf rs) n ((c :: t1) :: st) = rowN (wOf rs) (n - st.length) [c] ++ remM (wOf rs) n (t1 :: st) := by
      show rowN _ _ (c :: t1) ++ _ = _ ++ (_ ++ _)
      rw [rowN_cons, List.append_assoc]
    rw [hrem] at heq
    have hmes : mesM n ((c :: t1) :: st) = mesM n (t1 :: st) + cst (n - st.length) := by
      show 1 + (t1.length + 1) * _ + _ = 1 + t1.length * _ + _ + _
      rw [Nat.add_mul]
      omega
    have hcp := cst_pos (n - st.length)
    have hszc := sz_eq (wOf rs) (n - st.length) c
    refine ⟨_, rfl, _, rfl, _, _, rfl, rfl, _, rfl, ite2 (fun e3 => ?_) (fun e3 => ?_)⟩
    · -- skipped
      have hle : sz (wOf rs) (n - st.length) c ≤ (s' : Int) := of_decide_eq_true e3
      refine ⟨_, rfl, _, rfl, _, _, rfl, rfl, ?_⟩
      have hsn : (s' : Int) - sz (wOf rs) (n - st.length) c = ((s' - (rowN (wOf rs) (n - st.length) [c]).length : Nat) : Int) := by omega
      refine ⟨mesM n (t1 :: st), by omega, s' - (rowN (wOf rs) (n - st.length) [c]).length, fd, t1 :: st, ts' ++ [a2], some (.int (st.length : Int)), some (tv (c :: t1)), some (.int (sz (wOf rs) (n - st.length) c)), ?_, rfl, s5, ef5, ep5, pile6, by rw [List.length_cons]; omega, hst3, hfd, ?_⟩
      · rw [← hsn]
        rfl
      · rw [List.drop_append] at heq
        rw [List.drop_of_length_le (by omega), List.nil_append] at heq
        exact heq
    have hgt : (s' : Int) < sz (wOf rs) (n - st.length) c := by
      have : ¬ sz (wOf rs) (n - st.length) c ≤ (s' : Int) := fun h => e3 (decide_eq_true h)
      omega
    refine ⟨_, rfl, _, rfl, wd, _, rfl, .inl (s5.seq hwds), rfl, _, rfl, ite2 (fun e4 => ?_) (fun e4 => ?_)⟩
    · -- a letter of the last row
      have hkn : st.length = n := by
        have := of_decide_eq_true e4
        have h2 := V.int.inj this
        rw [List.length_replicate] at h2
        omega
      rw [hkn, Nat.sub_self] at hgt heq hszc
      have h1 : rowN (wOf rs) 0 [c] = [c] := rfl
      rw [h1] at heq hszc
      have hs0 : s' = 0 := by
        have : (([c] : Tx).length : Int) = 1 := rfl
        omega
      subst hs0
      refine ⟨_, rfl, .inl ⟨rfl, _, lst_of ef5⟩, _, rfl, S (c :: t1), _, c, rfl, rfl, txl, hat, fo, _, _, rfl, rfl, ef5, by rw [List.length_map]; exact small' (by omega), ?_⟩
      refine ⟨mesM n (t1 :: st), by omega, 0, fd ++ [c], t1 :: st, ts' ++ [a2], _, _, _, rfl, rfl, same_mut s5 nf, ?_, ?_, pile6.upd ef5, by rw [List.length_cons]; omega, hst3, ?_, ?_⟩
      · rw [upd_same, List.map_append]
        rfl
      · rw [upd_ne hfp.symm]
        exact ep5
      · rw [List.length_append]
        show fd.length + 1 ≤ many
        omega
      · rw [List.drop_zero] at heq ⊢
        rw [List.length_append, List.append_assoc]
        rw [← heq]
        congr 1
        have e5 : many - fd.length = (many - (fd.length + 1)) + 1 := by omega
        show c :: List.take (many - (fd.length + 1)) _ = List.take (many - fd.length) (c :: _)
        rw [e5, List.take_succ_cons]
        rfl
    · -- its word
      have hkn : st.length < n := by
        have : ¬ (V.int (st.length : Int) = V.int ((List.replicate n (V.ref dw)).length : Int)) := fun h => e4 (decide_eq_true h)
        rw [List.length_replicate] at this
        have h2 : st.length ≠ n := fun h => this (by rw [h])
        omega
      have hrep : (List.replicate n (V.ref dw))[st.length]? = some (.ref dw) := by
        rw [List.getElem?_replicate, if_pos hkn]
      have hw6 := ok.wlen hcm
      refine ⟨_, rfl, .inl ⟨rfl, _, lst_of ep5⟩, _, rfl, _, _, rfl, rfl, _, rfl, _, rfl, wd, _, _, _, rfl, rfl, s5.seq hwds, at_of rfl hrep, _, rfl, S (c :: t1), _, c, rfl, rfl, txl, hat, dw, _, rfl, dget_rd (k := Sum.inr (S [c])) (same_rd s5 hdw) (wordsKV_get ok hcm), by show 2 ≤ sizeLine; decide, fun a3 na3 => ?_⟩
      have s6 : Same H5 (upd H5 a3 (.tup [.int ((st.length : Int) + 1), tv (wOf rs c)])) := same_new na3
      have ha3' : (upd H5 a3 (.tup [.int ((st.length : Int) + 1), tv (wOf rs c)])) a3 = some (.tup [.int ((t1 :: st).length : Int), tv (wOf rs c)]) := upd_same
      have ef6 := s6 _ _ ef5
      have ep6 := s6 _ _ ep5
      have pile7 := (pile6.same s6).push ha3'
      generalize upd H5 a3 (.tup [.int ((st.length : Int) + 1), tv (wOf rs c)]) = H6 at s6 ef6 ep6 pile7
      refine ⟨pl, _, _, rfl, rfl, ep6, by rw [List.length_map, List.length_append]; exact small' (by show ts'.length + 1 ≤ _; omega), ?_⟩
      obtain ⟨m', hm'⟩ : ∃ m', n - st.length = m' + 1 := ⟨n - st.length - 1, by omega⟩
      have hm2 : n - (st.length + 1) = m' := by omega
      have hrow : rowN (wOf rs) (n - st.length) [c] = rowN (wOf rs) m' (wOf rs c) := by
        rw [hm', rowN_one]
      rw [hrow] at heq
      refine ⟨mesM n (wOf rs c :: t1 :: st), ?_, s', fd, wOf rs c :: t1 :: st, ts' ++ [a2] ++ [a3], _, _, _, rfl, rfl, same_mut (s5.trans s6) npl0, ?_, ?_, pile7.upd ep6, by rw [List.length_cons, List.length_cons]; omega, ?_, hfd, ?_⟩
      · rw [hmes, hm']
        show 1 + (wOf rs c).length * cst (n - (st.length + 1)) + mesM n (t1 :: st) < mesM n (t1 :: st) + (2 + 6 * cst m')
        rw [hm2]
        have : (wOf rs c).length * cst m' ≤ 6 * cst m' := Nat.mul_le_mul_right _ hw6
        omega
      · rw [upd_ne hfp]
        exact ef6
      · rw [upd_same, List.map_append (l₁ := ts' ++ [a2])]
        rfl
      · intro u hu
        rcases List.mem_cons.mp hu with h | h
        · rw [h]
          exact ⟨by omega, ok.wmem c hcm⟩
        · exact hst3 u h
      · rw [← heq]
        show fd ++ List.take _ (List.drop s' (rowN (wOf rs) (n - (st.length + 1)) (wOf rs c) ++ remM (wOf rs) n (t1 :: st))) = _
        rw [hm2]
end
end Lg
/-! places.py walked -/
namespace Lg
open PySem PySem.Spec PyProof.Rows L2
section
variable {P : Program} {w : World} {K : PySem.W.Frag} {mg : Str → Option Value} {base : Heap}
theorem rep_flat {α : Type} (x : α) : ∀ n : Nat, (List.replicate n [x]).flatten = List.replicate n x
  | 0 => rfl
  | n + 1 => by
    rw [List.replicate_succ, List.flatten_cons, rep_flat x n, List.replicate_succ]
    rfl
def spWordsAt (K : PySem.W.Frag) : Sp := fun vs H Q _ => ∃ (b : V) (first : Tx) (rs : Rls) (n : Nat), vs = [b, .int (n : Int)] ∧ BookAt K H b first rs ∧ RlsOk rs ∧ n ≤ 300 ∧ ∀ H' p, Same H H' → WordsAt K H' p n rs → Q (.ref p) H'
theorem c_words_at (T : Facts K mg) : C8.Cal P w K mg base 2 "words_at" (spWordsAt K) [] := by
  refine cal T.d_words_at sc_words_at (fun vs H Q E h => ?_) (fun f cdv A outer s H vs Q E hr h => ?_)
  · obtain ⟨b, first, rs, n, rfl, _⟩ := h
    rfl
  · obtain ⟨b, first, rs, n, rfl, hb, ok, hn, q⟩ := h
    refine ⟨_, (pss_one (ps_ret (pe_op op_rep (pe_lst (pa_cons (C8.pe_c (c_words_of T) hr (by decide) rfl (pa_cons (pv 0) pa_nil)) pa_nil)) (pv 1)))), ?_⟩
    refine ⟨_, rfl, b, first, rs, rfl, hb, ok, fun H1 d s1 nd ed => ⟨by show 1 ≤ sizeLine; decide, fun l nl => ?_⟩⟩
    have s2 : Same H1 (upd H1 l (.lst [.ref d])) := same_new nl
    refine ⟨_, rfl, l, _, _, rfl, rfl, upd_same, by omega, by omega, small (by show 1 * _ ≤ _; omega), fun p np => ?_⟩
    rw [rep_flat, show ((n : Int)).toNat = n by omega]
    have s3 := s2.trans (same_new np : Same _ (upd (upd H1 l (.lst [.ref d])) p (.lst (List.replicate n (.ref d)))))
    exact q _ p (s1.trans s3) ⟨d, lst_of upd_same, .inl (s3 _ _ ed)⟩
def spNeedPlace : Sp := fun vs H Q _ => ∃ p m : Int, vs = [.int p, .int m] ∧ 0 ≤ p ∧ p < m ∧ Q .non H
theorem c_need_place (T : Facts K mg) : C8.Cal P w K mg base 2 "need_place" spNeedPlace [] := by
  refine cal T.d_need_place sc_need_place (fun vs H Q E h => ?_) (fun f cdv A outer s H vs Q E hr h => ?_)
  · obtain ⟨p, m, rfl, _⟩ := h
    rfl
  · obtain ⟨p, m, rfl, h0, h1, q⟩ := h
    refine ⟨_, (pss_one (ps_if (PW.pt (pw_or (pt_not (pt_val (C8.pe_c (c_is_whole T) hr (by decide) rfl (pa_cons (pv 0) pa_nil)))) (pw_or (pt_cmpR op_lt (pv 0) pe_int (nomark _)) (pw_or1 (pt_cmpR op_ge (pv 0) (pv 1) (nomark _))))))
      (pss_one ps_never)
      pss_nil)), ?_⟩
    refine ⟨_, rfl, p, rfl, true, rfl, iteF ?_⟩
    refine ⟨_, rfl, _, _, rfl, rfl, _, rfl, ?_⟩
    rw [decide_eq_false (by omega)]
    refine iteF ?_
    refine ⟨_, rfl, _, rfl, _, _, rfl, rfl, _, rfl, ?_⟩
    rw [decide_eq_false (by omega)]
    exact iteF q
def spNeedCut : Sp := fun vs H Q _ => ∃ p k m : Int, vs = [.int p, .int k, .int m] ∧ 0 ≤ p ∧ 0 ≤ k ∧ k ≤ 100 ∧ p + k ≤ m ∧ Q .non H
theorem c_need_cut (T : Facts K mg) : C8.Cal P w K mg base 3 "need_cut" spNeedCut [] := by
  refine cal T.d_need_cut sc_need_cut (fun vs H Q E h => ?_) (fun f cdv A outer s H vs Q E hr h => ?_)
  · obtain ⟨p, k, m, rfl, _⟩ := h
    rfl
  · obtain ⟨p, k, m, rfl, h0, h1, h2, h3, q⟩ := h
    refine ⟨_, (pss_cons (ps_expr (C8.pe_c (c_need_place T) hr (by decide) rfl (pa_cons (pv 0) (pa_cons (pe_op op_add (pv 2) pe_int) pa_nil))))
      (pss_cons (ps_if (PW.pt (pw_or (pt_not (pt_val (C8.pe_c (c_is_whole T) hr (by decide) rfl (pa_cons (pv 1) pa_nil)))) (pw_or (pt_cmpR op_lt (pv 1) pe_int (nomark _)) (pw_or1 (pt_cmpR op_gt (pv 1) (C8.pe_gc rfl T.g_MOST_CUT) (nomark _))))))
      (pss_one ps_never)
      pss_nil)
      (pss_one (ps_if (pt_cmpR op_gt (pe_op op_add (pv 0) (pv 1)) (pv 2) (nomark _))
      (pss_one ps_never)
      pss_nil)))), ?_⟩
    refine ⟨_, rfl, _, rfl, _, _, rfl, rfl, p, _, rfl, h0, by omega, ?_⟩
    refine ⟨_, rfl, k, rfl, true, rfl, iteF ?_⟩
    refine ⟨_, rfl, _, _, rfl, rfl, _, rfl, ?_⟩
    rw [decide_eq_false (by omega)]
    refine iteF ?_
    refine ⟨_, rfl, _, _, rfl, rfl, _, rfl, ?_⟩
    rw [decide_eq_false (by omega)]
    refine iteF ?_
    refine ⟨_, rfl, _, rfl, _, _, rfl, rfl, _, rfl, _, _, rfl, rfl, _, rfl, ?_⟩
    rw [decide_eq_false (by omega)]
    exact iteF q
/-! ### way, letter_at, stretch -/
/-- what is asked of a book, an age and a place of its row -/
structure Asked (K : PySem.W.Frag) (H : Hp) (b : V) (first : Tx) (rs : Rls) (n : Nat) : Prop where
  book : BookAt K H b first rs
  ok : RlsOk rs
  age : n ≤ 300
  len : first.length ≤ 100
  mem : ∀ c ∈ first, c ∈ keysOf rs
def spWay (K : PySem.W.Frag) : Sp := fun vs H Q _ => ∃ (b : V) (first : Tx) (rs : Rls) (n : Nat) (p : Nat), vs = [b, .int (n : Int), .int (p : Int)] ∧ Asked K H b first rs n ∧ p < (rowN (wOf rs) n first).length ∧
  ∀ H' y s, Same H H' → WayAt K H' y s → WayOk (wOf rs) n first (p : Int) s → Q (.ref y) H'
theorem c_way (T : Facts K mg) : C8.Cal P w K mg base 3 "way" (spWay K) [] := by
  refine cal T.d_way sc_way (fun vs H Q E h => ?_) (fun f cdv A outer s H vs Q E hr h => ?_)
  · obtain ⟨b, first, rs, n, p, rfl, _⟩ := h
    rfl
  · obtain ⟨b, first, rs, n, p, rfl, ⟨hb, ok, hn, hl, hm⟩, hp, q⟩ := h
    refine ⟨_, (pss_cons (ps_expr (C8.pe_c (c_need_age T) hr (by decide) rfl (pa_cons (pv 1) pa_nil)))
      (pss_cons (ps_set (i := 3) sc_way.nd rfl (Or.inl rfl) (C8.pe_c (c_words_at T) hr (by decide) rfl (pa_cons (pv 0) (pa_cons (pv 1) pa_nil))))
      (pss_cons (ps_set (i := 4) sc_way.nd rfl (Or.inl rfl) (C8.pe_c (c_sizes_of T) hr (by decide) rfl (pa_cons (pv 3) (pa_cons (C8.pe_c (c_letters T) hr (by decide) rfl (pa_cons (pv 0) pa_nil)) pa_nil))))
      (pss_cons (ps_expr (C8.pe_c (c_need_place T) hr (by decide) rfl (pa_cons (pv 2) (pa_cons (C8.pe_c (c_total_of T) hr (by decide) rfl (pa_cons (pv 4) (pa_cons (pe_ix (r := rIxT K) ix_tup (pv 0) pe_int (fun _ _ => rfl)) pa_nil))) pa_nil))))
      (pss_one (ps_ret (C8.pe_c (c_way_down T) hr (by decide) rfl (pa_cons (pv 3) (pa_cons (pv 4) (pa_cons (pe_ix (r := rIxT K) ix_tup (pv 0) pe_int (fun _ _ => rfl)) (pa_cons (pv 2) pa_nil))))))))))), ?_⟩
    have hws := wsum_sz (wOf rs) n first
    refine ⟨_, rfl, n, rfl, hn, ?_⟩
    refine ⟨_, rfl, _, rfl, b, first, rs, n, rfl, hb, ok, hn, fun H1 wd s1 hwd => ?_⟩
    refine ⟨_, rfl, _, rfl, b, first, rs, rfl, hb.same s1, ok.len, fun H2 s2 => ?_⟩
    refine ⟨wd, n, rs, rfl, hwd.same s2, ok, hn, fun H3 wp s3 hwp => ?_⟩
    have s03 := (s1.trans s2).trans s3
    obtain ⟨a, r, rfl, ha, _⟩ := hb
    refine ⟨_, rfl, _, rfl, _, rfl, a, _, 0, tv first, rfl, rfl, same_tup s03 ha, at0, wp, n, _, _, first, rfl, hwp, hm, by omega, fun H4 s4 => ?_⟩
    refine ⟨p, _, rfl, by omega, by omega, ?_⟩
    have s04 := s03.trans s4
    refine ⟨_, rfl, _, rfl, _, rfl, a, _, 0, tv first, rfl, rfl, same_tup s04 ha, at0, _, rfl, wd, wp, n, rs, first, p, rfl, (hwd.same s2).same (s3.trans s4), hwp.same s4, ok, hn, by omega, hm, by omega, by omega, fun H5 y st s5 _ hy hway => ?_⟩
    exact q H5 y st (s04.trans s5) hy hway
def spLetterAt (K : PySem.W.Frag) : Sp := fun vs H Q _ => ∃ (b : V) (first : Tx) (rs : Rls) (n : Nat) (p c : Nat), vs = [b, .int (n : Int), .int (p : Int)] ∧ Asked K H b first rs n ∧ (rowN (wOf rs) n first)[p]? = some c ∧ ∀ H', Same H H' → Q (tv [c]) H'
theorem c_letter_at (T : Facts K mg) : C8.Cal P w K mg base 4 "letter_at" (spLetterAt K) [] := by
  refine cal T.d_letter_at sc_letter_at (fun vs H Q E h => ?_) (fun f cdv A outer s H vs Q E hr h => ?_)
  · obtain ⟨b, first, rs, n, p, c, rfl, _⟩ := h
    rfl
  · obtain ⟨b, first, rs, n, p, c, rfl, ask, hc, q⟩ := h
    refine ⟨_, (pss_one (ps_ret (pe_ix (r := rIxT K) ix_tup (pe_ix (r := rIxL K) ix_list (C8.pe_c (c_way T) hr (by decide) rfl (pa_cons (pv 0) (pa_cons (pv 1) (pa_cons (pv 2) pa_nil)))) (pe_un un_neg pe_int) (fun _ _ => rfl)) pe_int (fun _ _ => rfl)))), ?_⟩
    refine ⟨_, rfl, _, rfl, _, rfl, b, first, rs, n, p, rfl, ask, (List.getElem?_eq_some_iff.mp hc).1, fun H' y st sm ⟨ts, hts, hl, htup⟩ hway => ?_⟩
    obtain ⟨c', i, g1, _, g3, g4, _⟩ := way_row hway
    have e : ((p : Int)).toNat = p := by omega
    rw [e, hc] at g3
    have ec : c = c' := Option.some.inj g3
    subst ec
    have hne : ts ≠ [] := by
      intro z
      subst z
      rw [g4] at hl
      simp at hl
    have hlast : atI (ts.map V.ref) (-1) = some (.ref (ts.getLast hne)) := by
      have : ts.map V.ref = ts.dropLast.map V.ref ++ [.ref (ts.getLast hne)] := by
        conv => lhs; rw [← List.dropLast_concat_getLast hne]
        rw [List.map_append]
        rfl
      rw [this]
      exact atI_last _ _
    have hla : SqT K H' (ts.getLast hne) [tv [c], .int (i : Int)] := by
      refine htup (ts.length - 1) _ (c, i) ?_ ?_
      · rw [List.getLast_eq_getElem, List.getElem?_eq_getElem (by omega)]
      · rw [hl, ← List.getLast?_eq_getElem?]
        exact g1
    exact ⟨1, rfl, y, _, _, _, rfl, rfl, hts, hlast, _, _, 0, _, rfl, rfl, hla, at0, q H' sm⟩
def spStretch (K : PySem.W.Frag) : Sp := fun vs H Q _ => ∃ (b : V) (first : Tx) (rs : Rls) (n : Nat) (p k : Nat), vs = [b, .int (n : Int), .int (p : Int), .int (k : Int)] ∧ Asked K H b first rs n ∧ p + k ≤ (rowN (wOf rs) n first).length ∧ k ≤ 100 ∧
  ∀ H', Same H H' → Q (tv (((rowN (wOf rs) n first).drop p).take k)) H'
theorem c_stretch (T : Facts K mg) : C8.Cal P w K mg base 4 "stretch" (spStretch K) [] := by
  refine cal T.d_stretch sc_stretch (fun vs H Q E h => ?_) (fun f cdv A outer s H vs Q E hr h => ?_)
  · obtain ⟨b, first, rs, n, p, k, rfl, _⟩ := h
    rfl
  · obtain ⟨b, first, rs, n, p, k, rfl, ⟨hb, ok, hn, hl, hm⟩, hp, hk, q⟩ := h
    refine ⟨_, (pss_cons (ps_expr (C8.pe_c (c_need_age T) hr (by decide) rfl (pa_cons (pv 1) pa_nil)))
      (pss_cons (ps_set (i := 4) sc_stretch.nd rfl (Or.inl rfl) (C8.pe_c (c_words_at T) hr (by decide) rfl (pa_cons (pv 0) (pa_cons (pv 1) pa_nil))))
      (pss_cons (ps_set (i := 5) sc_stretch.nd rfl (Or.inl rfl) (C8.pe_c (c_sizes_of T) hr (by decide) rfl (pa_cons (pv 4) (pa_cons (C8.pe_c (c_letters T) hr (by decide) rfl (pa_cons (pv 0) pa_nil)) pa_nil))))
      (pss_cons (ps_expr (C8.pe_c (c_need_cut T) hr (by decide) rfl (pa_cons (pv 2) (pa_cons (pv 3) (pa_cons (C8.pe_c (c_total_of T) hr (by decide) rfl (pa_cons (pv 5) (pa_cons (pe_ix (r := rIxT K) ix_tup (pv 0) pe_int (fun _ _ => rfl)) pa_nil))) pa_nil)))))
      (pss_one (ps_ret (C8.pe_c (c_cut_out T) hr (by decide) rfl (pa_cons (pv 4) (pa_cons (pv 5) (pa_cons (pe_ix (r := rIxT K) ix_tup (pv 0) pe_int (fun _ _ => rfl)) (pa_cons (pv 2) (pa_cons (pv 3) pa_nil)))))))))))), ?_⟩
    have hws := wsum_sz (wOf rs) n first
    refine ⟨_, rfl, n, rfl, hn, ?_⟩
    refine ⟨_, rfl, _, rfl, b, first, rs, n, rfl, hb, ok, hn, fun H1 wd s1 hwd => ?_⟩
    refine ⟨_, rfl, _, rfl, b, first, rs, rfl, hb.same s1, ok.len, fun H2 s2 => ?_⟩
    refine ⟨wd, n, rs, rfl, hwd.same s2, ok, hn, fun H3 wp s3 hwp => ?_⟩
    have s03 := (s1.trans s2).trans s3
    obtain ⟨a, r, rfl, ha, _⟩ := hb
    refine ⟨_, rfl, _, rfl, _, rfl, _, rfl, a, _, 0, tv first, rfl, rfl, same_tup s03 ha, at0, wp, n, _, _, first, rfl, hwp, hm, by omega, fun H4 s4 => ?_⟩
    refine ⟨p, k, _, rfl, by omega, by omega, by omega, by omega, ?_⟩
    have s04 := s03.trans s4
    refine ⟨_, rfl, _, rfl, _, rfl, a, _, 0, tv first, rfl, rfl, same_tup s04 ha, at0, _, rfl, _, rfl, wd, wp, n, rs, first, p, k, rfl, (hwd.same s2).same (s3.trans s4), hwp.same s4, ok, hn, by omega, hm, hk, fun H5 s5 => ?_⟩
    exact q H5 (s04.trans s5)
/-! ### worths_by, ahead -/
def spWorthsBy (K : PySem.W.Frag) : Sp := fun vs H Q _ => ∃ (b : V) (first : Tx) (rs : Rls) (wd : Addr) (n x : Nat), vs = [b, .ref wd, tv [x]] ∧ BookAt K H b first rs ∧ RlsOk rs ∧ WordsAt K H wd n rs ∧ n ≤ 300 ∧ ∀ H' p, Same H H' → WorthsAt K H' p n (keysOf rs) (wo (wOf rs) (isx x)) → Q (.ref p) H'
theorem c_worths_by (T : Facts K mg) : C8.Cal P w K mg base 2 "worths_by" (spWorthsBy K) [] := by
  refine cal T.d_worths_by sc_worths_by (fun vs H Q E h => ?_) (fun f cdv A outer s H vs Q E hr h => ?_)
  · obtain ⟨b, first, rs, wd, n, x, rfl, _⟩ := h
    rfl
  · obtain ⟨b, first, rs, wd, n, x, rfl, hb, ok, hwd, hn, q⟩ := h
    refine ⟨_, (pss_one (ps_ret (C8.pe_c (c_worths_of T) hr (by decide) rfl (pa_cons (pv 1) (pa_cons (pe_callTy (call_dictP rfl) (by rfl) T.b_dict (by decide +kernel) (pa_cons (pe_lc (own := [("name", 3)]) (g := gName 3) (tt := tYes) rfl sc_worths_by.nd (pi_str (C8.pe_c (c_letters T) hr (by decide) rfl (pa_cons (pv 0) pa_nil))) (blkOk_by (N := ["book", "words", "letter", "name"]) (sc := defScope s_worths_by) (by decide +kernel)) (fun _ _ _ _ _ => pg_name (i := 3) sc_worths_by.nd rfl (Or.inl rfl)) (fun _ _ _ _ _ => pts_nil) (fun _ _ _ _ _ => (pe_tup (pa_cons (pv 3) (pa_cons (pe_callTy call_int1 (by rfl) T.b_int (by decide +kernel) (pa_cons (pe_cmpR op_eq (pv 3) (pv 2) (nomark _)) pa_nil)) pa_nil))))) pa_nil)) pa_nil))))), ?_⟩
    refine ⟨_, rfl, _, rfl, b, first, rs, rfl, hb, ok.len, fun H1 s1 => ⟨_, rfl, fun D hD => ?_⟩⟩
    refine lcn_gen (walk_str (z := S (keysOf rs))) (fun j v H => ∃ t, v = V.ref t ∧ ∃ c, (keysOf rs)[j]? = some c ∧ H t = some (.tup [tv [c], .int (isx x c)]))
      (by rw [S_size]; have := ok.klen; omega) hD (fun _ _ => trivial) (fun _ => rfl) (fun j v H4 H5 s4 h => ?_) (fun j v H4 xs ys hD4 h => ?_) (fun j y H4 H5 Qc hj s4 yy qc => ?_) (fun H4 acc s4 hac hal hae => ?_)
    · obtain ⟨t, e1, c, hc, ht⟩ := h
      exact ⟨t, e1, c, hc, s4 _ _ ht⟩
    · obtain ⟨t, e1, c, hc, ht⟩ := h
      refine ⟨t, e1, c, hc, ?_⟩
      rw [upd_ne]
      · exact ht
      · intro z
        subst z
        rw [hD4] at ht
        cases ht
    · obtain ⟨rfl, c, hc, rfl⟩ := yy
      rw [S_get] at hc
      refine ⟨_, rfl, _, rfl, _, rfl, rfl, .inr ⟨_, rfl, ?_⟩⟩
      refine ⟨by show 2 ≤ sizeLine; decide, fun t nt => ?_⟩
      refine qc _ _ (same_new nt) ⟨t, rfl, c, hc, ?_⟩
      rw [upd_same]
      have e : (if decide (V.str ⟨#[c]⟩ = tv [x]) = true then (1 : Int) else 0) = isx x c := by
        unfold isx
        by_cases h : c = x
        · subst h
          rw [if_pos rfl, if_pos (decide_eq_true rfl)]
        · rw [if_neg h, if_neg]
          intro z
          have z2 : tv [c] = tv [x] := of_decide_eq_true z
          exact h (by simpa using tv_inj z2)
      rw [e]
    · rw [S_size] at hal
      obtain ⟨ts, rfl, hpair⟩ := pairs_of_acc (K := K) (H := H4) (g := isx x) hal hae
      refine ⟨D, ts, _, rfl, lst_of hac, hpair, fun e ne => ?_⟩
      rw [merge_wKV ok.nd]
      have s14 := s1.trans s4
      refine ⟨wd, e, n, rs, isx x, rfl, (hwd.same s14).same (same_new ne), ok, upd_same, hn, fun H' p s5 hw => ?_⟩
      exact q H' p ((s14.trans (same_new ne)).trans s5) hw
def spAhead (K : PySem.W.Frag) : Sp := fun vs H Q _ => ∃ (b : V) (first : Tx) (rs : Rls) (n p x : Nat), vs = [b, .int (n : Int), .int (p : Int), tv [x]] ∧ Asked K H b first rs n ∧ p < (rowN (wOf rs) n first).length ∧ x ∈ keysOf rs ∧
  ∀ H', Same H H' → Q (.int (((rowN (wOf rs) n first).take p).count x : Int)) H'
theorem c_ahead (T : Facts K mg) : C8.Cal P w K mg base 3 "ahead" (spAhead K) [] := by
  refine cal T.d_ahead sc_ahead (fun vs H Q E h => ?_) (fun f cdv A outer s H vs Q E hr h => ?_)
  · obtain ⟨b, first, rs, n, p, x, rfl, _⟩ := h
    rfl
  · obtain ⟨b, first, rs, n, p, x, rfl, ⟨hb, ok, hn, hl, hm⟩, hp, hx, q⟩ := h
    refine ⟨_, (pss_cons (ps_expr (C8.pe_c (c_need_age T) hr (by decide) rfl (pa_cons (pv 1) pa_nil)))
      (pss_cons (ps_set (i := 4) sc_ahead.nd rfl (Or.inl rfl) (C8.pe_c (c_words_at T) hr (by decide) rfl (pa_cons (pv 0) (pa_cons (pv 1) pa_nil))))
      (pss_cons (ps_set (i := 5) sc_ahead.nd rfl (Or.inl rfl) (C8.pe_c (c_sizes_of T) hr (by decide) rfl (pa_cons (pv 4) (pa_cons (C8.pe_c (c_letters T) hr (by decide) rfl (pa_cons (pv 0) pa_nil)) pa_nil))))
      (pss_cons (ps_set (i := 6) sc_ahead.nd rfl (Or.inl rfl) (C8.pe_c (c_total_of T) hr (by decide) rfl (pa_cons (pv 5) (pa_cons (pe_ix (r := rIxT K) ix_tup (pv 0) pe_int (fun _ _ => rfl)) pa_nil))))
      (pss_cons (ps_expr (C8.pe_c (c_need_place T) hr (by decide) rfl (pa_cons (pv 2) (pa_cons (pe_op op_add (pv 6) pe_int) pa_nil))))
      (pss_cons (ps_expr (C8.pe_c (c_need_letter T) hr (by decide) rfl (pa_cons (pv 0) (pa_cons (pv 3) pa_nil))))
      (pss_cons (ps_set (i := 7) sc_ahead.nd rfl (Or.inl rfl) (C8.pe_c (c_worths_by T) hr (by decide) rfl (pa_cons (pv 0) (pa_cons (pv 4) (pa_cons (pv 3) pa_nil)))))
      (pss_cons (ps_if (pt_cmpR op_eq (pv 2) (pv 6) (nomark _))
      (pss_one (ps_ret (C8.pe_c (c_total_of T) hr (by decide) rfl (pa_cons (pv 7) (pa_cons (pe_ix (r := rIxT K) ix_tup (pv 0) pe_int (fun _ _ => rfl)) pa_nil)))))
      pss_nil)
      (pss_one (ps_ret (C8.pe_c (c_worth_ahead T) hr (by decide) rfl (pa_cons (pv 4) (pa_cons (pv 7) (pa_cons (pe_ix (r := rIxT K) ix_tup (pv 0) pe_int (fun _ _ => rfl)) (pa_cons (C8.pe_c (c_way_down T) hr (by decide) rfl (pa_cons (pv 4) (pa_cons (pv 5) (pa_cons (pe_ix (r := rIxT K) ix_tup (pv 0) pe_int (fun _ _ => rfl)) (pa_cons (pv 2) pa_nil))))) pa_nil))))))))))))))), ?_⟩
    have hws := wsum_sz (wOf rs) n first
    refine ⟨_, rfl, n, rfl, hn, ?_⟩
    refine ⟨_, rfl, _, rfl, b, first, rs, n, rfl, hb, ok, hn, fun H1 wd s1 hwd => ?_⟩
    refine ⟨_, rfl, _, rfl, b, first, rs, rfl, hb.same s1, ok.len, fun H2 s2 => ?_⟩
    refine ⟨wd, n, rs, rfl, hwd.same s2, ok, hn, fun H3 wp s3 hwp => ?_⟩
    have s03 := (s1.trans s2).trans s3
    obtain ⟨a, r, rfl, ha, hrl⟩ := id hb
    refine ⟨_, rfl, _, rfl, a, _, 0, tv first, rfl, rfl, same_tup s03 ha, at0, wp, n, _, _, first, rfl, hwp, hm, by omega, fun H4 s4 => ?_⟩
    have s04 := s03.trans s4
    refine ⟨_, rfl, _, rfl, _, _, rfl, rfl, p, _, rfl, by omega, by omega, ?_⟩
    refine ⟨_, rfl, _, rfl, _, first, rs, x, rfl, hb.same s04, ok, hx, fun H5 s5 => ?_⟩
    have s05 := s04.trans s5
    have hwd5 := (hwd.same s2).same ((s3.trans s4).trans s5)
    refine ⟨_, rfl, _, rfl, _, rfl, _, first, rs, wd, n, x, rfl, hb.same s05, ok, hwd5, hn, fun H6 wx s6 hwx => ?_⟩
    have s06 := s05.trans s6
    refine ⟨_, rfl, _, rfl, rfl, _, rfl, ite2 (fun e => ?_) (fun e => ?_)⟩
    · have h1 : V.int (p : Int) = V.int (wsum (sz (wOf rs) n) first) := of_decide_eq_true e
      have h2 := V.int.inj h1
      omega
    refine ⟨_, rfl, _, rfl, _, rfl, a, _, 0, tv first, rfl, rfl, same_tup s06 ha, at0, _, rfl, _, rfl, _, rfl, a, _, 0, tv first, rfl, rfl, same_tup s06 ha, at0, _, rfl, wd, wp, n, rs, first, p, rfl, hwd5.same s6, hwp.same ((s4.trans s5).trans s6), ok, hn, by omega, hm, by omega, by omega, fun H7 y st s7 _ hy hway => ?_⟩
    obtain ⟨_, _, _, _, _, _, g5⟩ := way_row hway
    refine ⟨wd, wx, y, n, rs, isx x, first, p, st, rfl, (hwd5.same s6).same s7, hwx.same s7, hy, ok, hn, by omega, hm, hway, fun H8 s8 => ?_⟩
    rw [g5 (isx x), wsum_isx, show ((p : Int)).toNat = p by omega]
    exact q H8 ((s06.trans s7).trans s8)
end
end Lg
/-! sums.py walked -/
namespace Lg
open PySem PySem.Spec PyProof.Rows L2
theorem At_one (t : Tx) (c i : Nat) : StrLaws.At (S t) (S [c]) (S t).length i ↔ t[i]? = some c := StrLaws.subAt_one (S t) c i
theorem count_zero {t : Tx} {c a b : Nat} (h : ∀ k, a ≤ k → k < b → t[k]? ≠ some c) : ((t.drop a).take (b - a)).count c = 0 := by
  rw [List.count_eq_zero]
  intro hm
  obtain ⟨j, hj⟩ := List.getElem?_of_mem hm
  have hlt : j < b - a := by
    have h1 := (List.getElem?_eq_some_iff.mp hj).1
    rw [List.length_take] at h1
    omega
  rw [List.getElem?_take_of_lt hlt, List.getElem?_drop] at hj
  exact h (a + j) (by omega) (by omega) hj
theorem chain_count {t : Tx} {c : Nat} : ∀ {l : List Nat} {a f : Nat}, StrLaws.ChainG (S t) (S [c]) (S t).length a l f → (∀ k, f ≤ k → ¬ StrLaws.At (S t) (S [c]) (S t).length k) → l.length = (t.drop a).count c
  | [], a, f, h, hf => by
    have e : f = a := h
    subst e
    have := count_zero (t := t) (c := c) (a := f) (b := f + t.length) fun k h1 _ h2 => hf k h1 ((At_one t c k).mpr h2)
    rw [List.take_of_length_le (by rw [List.length_drop]; omega)] at this
    rw [this]
    rfl
  | i :: r, a, f, h, hf => by
    obtain ⟨h1, h2, h3, h4⟩ := h
    have hi := (At_one t c i).mp h2
    have ih := chain_count (l := r) (a := i + 1) (f := f) h4 hf
    have hz := count_zero (t := t) (c := c) (a := a) (b := i) fun k g1 g2 g3 => h3 k g1 g2 ((At_one t c k).mpr g3)
    have e : t.drop a = (t.drop a).take (i - a) ++ c :: t.drop (i + 1) := by
      conv => lhs; rw [← List.take_append_drop (i - a) (t.drop a)]
      congr 1
      rw [List.drop_drop, show a + (i - a) = i by omega]
      obtain ⟨hl, hc⟩ := List.getElem?_eq_some_iff.mp hi
      rw [← hc, List.getElem_cons_drop]
    rw [e, List.count_append, hz, List.count_cons, List.length_cons, ih]
    simp
theorem count_S (t : Tx) (c : Nat) : Txt.count (S t) (S [c]) = (t.count c : Int) := by
  unfold Txt.count
  obtain ⟨f, h1, h2⟩ := StrLaws.occ_tight (S t) (S [c]) (by show 1 ≤ 1; decide)
  have := chain_count h1 h2
  rw [List.drop_zero] at this
  rw [this]
abbrev intsV (l : List Int) : List V := l.map V.int
theorem pe_bmB {X : Cx} {K : PySem.W.Frag} {e : Expr} {T : String} {r : V → List V → Hp → VK → Prop} {to : TE} {t : TA} (h : PE X e (tBM X.K T r to t)) (hK : X.K = K) : PE X e (tBM K T r to t) := hK ▸ h
section
variable {P : Program} {w : World} {K : PySem.W.Frag} {mg : Str → Option Value} {base : Heap}
/-! ### tally, table -/
def spTally (K : PySem.W.Frag) : Sp := fun vs H Q _ => ∃ (ls : List Nat) (t : Tx), vs = [tv ls, tv t] ∧ ls.length ≤ 100 ∧ ∀ H' p, Same H H' → H p = none → H' p = some (.lst (intsV (cntM ls t))) → Q (.ref p) H'
theorem c_tally (T : Facts K mg) : C8.Cal P w K mg base 1 "tally" (spTally K) [] := by
  refine cal T.d_tally sc_tally (fun vs H Q E h => ?_) (fun f cdv A outer s H vs Q E hr h => ?_)
  · obtain ⟨ls, t, rfl, _⟩ := h
    rfl
  · obtain ⟨ls, t, rfl, hl, q⟩ := h
    refine ⟨_, (pss_one (ps_ret (pe_lc (own := [("sign", 2)]) (g := gName 2) (tt := tYes) rfl sc_tally.nd (pi_str (pv 0)) (blkOk_by (N := ["signs", "text", "sign"]) (sc := defScope s_tally) (by decide +kernel)) (fun _ _ _ _ _ => pg_name (i := 2) sc_tally.nd rfl (Or.inl rfl)) (fun _ _ _ _ _ => pts_nil) (fun _ _ _ _ _ => (pe_bmB (K := K) (pe_bm PySem.F.plainAttrs_str PySem.F.slot_str_count PySem.F.type_str_count mt_count (pv 1) (pa_cons (pv 2) pa_nil)) rfl))))), ?_⟩
    refine ⟨_, rfl, _, rfl, fun D hD => ?_⟩
    refine lcn_val (walk_str (z := S ls)) (fun i => .int (t.count ((ls[i]?).getD 0) : Int)) (by rw [S_size]; omega) hD (fun _ _ => trivial) (fun _ => rfl) (fun i x H' H'' Qc hlt sm y qc => ?_) (fun H' sm hd' => ?_)
    · obtain ⟨rfl, c, hc, rfl⟩ := y
      rw [S_get] at hc
      refine ⟨_, rfl, rfl, _, rfl, _, _, rfl, rfl, ?_⟩
      have := qc H'' (Same.refl _)
      rw [hc] at this
      rw [show Txt.count (S t) ⟨#[c]⟩ = (t.count c : Int) from count_S t c]
      exact this
    · have e : ((List.range (S ls).cps.size).map fun i => V.int (t.count ((ls[i]?).getD 0) : Int)) = intsV (cntM ls t) := by
        show _ = (ls.map fun c => ((t.count c : Nat) : Int)).map V.int
        rw [List.map_map, S_size]
        refine range_get _ _ _ fun i c hc => ?_
        rw [hc]
        rfl
      rw [e] at hd'
      exact q H' D sm hD hd'
/-- the table of a book -/
def TableAt (K : PySem.W.Frag) (H : Hp) (p : Addr) (rs : Rls) : Prop := ∃ ds : List Addr, SqL K H p (ds.map V.ref) ∧ ds.length = rs.length ∧ ∀ (i : Nat) (d : Addr) (r : Nat × Tx), ds[i]? = some d → rs[i]? = some r → SqL K H d (intsV (cntM (keysOf rs) r.2))
theorem TableAt.same {K : PySem.W.Frag} {H H' : Hp} {p : Addr} {rs : Rls} (h : TableAt K H p rs) (e : Same H H') : TableAt K H' p rs := by
  obtain ⟨ds, h1, h2, h3⟩ := h
  exact ⟨ds, e.seq h1, h2, fun i d r a b => e.seq (h3 i d r a b)⟩
def spTable (K : PySem.W.Frag) : Sp := fun vs H Q _ => ∃ (b : V) (first : Tx) (rs : Rls), vs = [b] ∧ BookAt K H b first rs ∧ RlsOk rs ∧ ∀ H' p, Same H H' → TableAt K H' p rs → Q (.ref p) H'
theorem c_table (T : Facts K mg) : C8.Cal P w K mg base 2 "table" (spTable K) [] := by
  refine cal T.d_table sc_table (fun vs H Q E h => ?_) (fun f cdv A outer s H vs Q E hr h => ?_)
  · obtain ⟨b, first, rs, rfl, _⟩ := h
    rfl
  · obtain ⟨b, first, rs, rfl, hb, ok, q⟩ := h
    refine ⟨_, (pss_cons (ps_set (i := 1) sc_table.nd rfl (Or.inr rfl) (C8.pe_c (c_letters T) hr (by decide) rfl (pa_cons (pv 0) pa_nil)))
      (pss_one (ps_ret (pe_lc (own := [("rule", 2)]) (g := gName 2) (tt := tYes) rfl sc_table.nd (pi_tup (pe_ix (r := rIxT K) ix_tup (pv 0) pe_int (fun _ _ => rfl))) (blkOk_by (N := ["book", "signs", "rule"]) (sc := defScope s_table) (by decide +kernel)) (fun _ _ _ _ _ => pg_name (i := 2) sc_table.nd rfl (Or.inl rfl)) (fun _ _ _ _ _ => pts_nil) (fun _ _ _ _ _ => (C8.pe_c (c_tally T) hr (by decide) rfl (pa_cons (pv 1) (pa_cons (pe_ix (r := rIxT K) ix_tup (pv 2) pe_int (fun _ _ => rfl)) pa_nil)))))))), ?_⟩
    refine ⟨_, rfl, b, first, rs, rfl, hb, ok.len, fun H1 s1 => ?_⟩
    obtain ⟨a, r, rfl, ha, ts, ht, hl, hi⟩ := hb
    refine ⟨_, rfl, a, _, 1, .ref r, rfl, rfl, same_tup s1 ha, at1, r, rfl, ⟨_, same_tup s1 ht⟩, fun D hD => ?_⟩
    refine lcn_gen2 (walk_tup (xs := ts.map V.ref)) (fun i v H => ∃ d, v = V.ref d ∧ d ≠ D ∧ ∃ r, rs[i]? = some r ∧ H d = some (.lst (intsV (cntM (keysOf rs) r.2))))
      (by rw [List.length_map, hl]; have := ok.len; omega) hD (fun H' sm => same_tup (s1.trans sm) ht) (fun _ => rfl) (fun j v H4 H5 s4 h => ?_) (fun j v H4 xs ys hD4 h => ?_) (fun j x H4 H5 Qc hj s4 hac y qc => ?_) (fun H4 acc s4 hac hal hae => ?_)
    · obtain ⟨d, e1, hne, r, hr', hd⟩ := h
      exact ⟨d, e1, hne, r, hr', s4 _ _ hd⟩
    · obtain ⟨d, e1, hne, r, hr', hd⟩ := h
      exact ⟨d, e1, hne, r, hr', by rw [upd_ne hne]; exact hd⟩
    · obtain ⟨rfl, hx⟩ := y
      rw [List.getElem?_map, Option.map_eq_some_iff] at hx
      obtain ⟨t, hx, rfl⟩ := hx
      have hlt2 : j < rs.length := by
        have := (List.getElem?_eq_some_iff.mp hx).1
        omega
      have hp : rs[j]? = some rs[j] := List.getElem?_eq_getElem hlt2
      have htt := same_tup (s1.trans s4) (hi j t _ hx hp)
      obtain ⟨acc, hacc⟩ := hac
      refine ⟨_, rfl, _, rfl, t, _, 1, _, rfl, rfl, htt, at1, keysOf rs, _, rfl, by have := ok.klen; omega, fun H6 d s6 nd ed => ?_⟩
      exact qc _ _ s6 ⟨d, rfl, (fun z => by subst z; rw [hacc] at nd; cases nd), _, hp, ed⟩
    · rw [List.length_map, hl] at hal
      have hrefs : ∃ ds : List Addr, acc = ds.map V.ref := by
        have : ∀ l : List V, (∀ v ∈ l, ∃ d, v = V.ref d) → ∃ ds : List Addr, l = ds.map V.ref := fun l => by
          induction l with
          | nil => exact fun _ => ⟨[], rfl⟩
          | cons v l ih =>
            intro h
            obtain ⟨ds, e⟩ := ih fun u hu => h u (List.mem_cons_of_mem _ hu)
            obtain ⟨d, e2⟩ := h v List.mem_cons_self
            exact ⟨d :: ds, by rw [e, e2]; rfl⟩
        refine this acc fun v hv => ?_
        obtain ⟨i, hi'⟩ := List.getElem?_of_mem hv
        obtain ⟨d, e, _⟩ := hae i v hi'
        exact ⟨d, e⟩
      obtain ⟨ds, rfl⟩ := hrefs
      refine q H4 D (s1.trans s4) ⟨ds, lst_of hac, by rw [List.length_map] at hal; exact hal, fun i d r h1 h2 => ?_⟩
      obtain ⟨d', e, _, r', hr', hd⟩ := hae i (.ref d) (by rw [List.getElem?_map, h1]; rfl)
      have ed : d = d' := V.ref.inj e
      rw [h2] at hr'
      have er : r = r' := Option.some.inj hr'
      subst ed er
      exact lst_of hd
/-! ### passed -/
def mixM (A B : List Int) (j : Nat) : List Int := B.take j ++ A.drop j
theorem mix_len {A B : List Int} {j : Nat} (h : A.length = B.length) (hj : j ≤ A.length) : (mixM A B j).length = A.length := by
  unfold mixM
  rw [List.length_append, List.length_take, List.length_drop]
  omega
theorem mix_get {A B : List Int} {j : Nat} {a : Int} (h : A.length = B.length) (ha : A[j]? = some a) : (mixM A B j)[j]? = some a := by
  have hj := (List.getElem?_eq_some_iff.mp ha).1
  unfold mixM
  rw [List.getElem?_append_right (by rw [List.length_take]; omega), List.length_take, List.getElem?_drop]
  rw [show j + (j - min j B.length) = j by omega]
  exact ha
theorem mix_set {A B : List Int} {j : Nat} {b : Int} (h : A.length = B.length) (hb : B[j]? = some b) : (mixM A B j).set j b = mixM A B (j + 1) := by
  have hj := (List.getElem?_eq_some_iff.mp hb).1
  unfold mixM
  rw [List.take_add_one, hb]
  have e : A.drop j = A[j]'(by omega) :: A.drop (j + 1) := (List.getElem_cons_drop (by omega)).symm
  rw [e, List.set_append_right _ _ (by rw [List.length_take]; omega), List.length_take, show j - min j B.length = 0 by omega, List.set_cons_zero, List.append_assoc]
  rfl
theorem acc_len (ls : List Nat) (w : Nat → Tx) (t : Tx) (i : Nat) : (accM ls w t i).length = ls.length := by
  unfold accM
  rw [List.length_map]
def spPassed (K : PySem.W.Frag) : Sp := fun vs H Q _ => ∃ (rt am : Addr) (rs : Rls) (t : Tx), vs = [.ref rt, .ref am] ∧ TableAt K H rt rs ∧ SqL K H am (intsV (cntM (keysOf rs) t)) ∧ RlsOk rs ∧ (∀ c ∈ t, c ∈ keysOf rs) ∧
  ∀ H' p, Same H H' → H p = none → H' p = some (.lst (intsV (cntM (keysOf rs) (tby (wOf rs) t)))) → Q (.ref p) H'
theorem c_passed (T : Facts K mg) : C8.Cal P w K mg base 1 "passed" (spPassed K) [] := by
  refine cal T.d_passed sc_passed (fun vs H Q E h => ?_) (fun f cdv A outer s H vs Q E hr h => ?_)
  · obtain ⟨rt, am, rs, t, rfl, _⟩ := h
    rfl
  · obtain ⟨rt, am, rs, t, rfl, ⟨ds, hrt, hdl, hds⟩, ham, ok, hm, q⟩ := h
    refine ⟨_, (pss_cons (ps_setLc (i := 2) (own := [("one", 7)]) (g := gName 7) (tt := tYes) rfl sc_passed.nd rfl rfl (sw_true rfl rfl rfl (by decide +kernel)) (pi_list (pv 1)) (blkOk_by (N := ["rates", "amounts", "found", "at", "amount", "place", "rate", "one"]) (sc := defScope s_passed) (by decide +kernel)) (fun _ _ _ _ _ => pg_name (i := 7) sc_passed.nd rfl (Or.inl rfl)) (fun _ _ _ _ _ => pts_nil) (fun _ _ _ _ _ => pe_int))
      (pss_cons (ps_for PassesOwn.never rfl (pi_enum (by rfl) T.b_enumerate (pa_cons (pv 1) pa_nil)) (pg_tup rfl (pgs_cons (pg_name (i := 3) sc_passed.nd rfl (Or.inl rfl)) (pgs_cons (pg_name (i := 4) sc_passed.nd rfl (Or.inl rfl)) pgs_nil)))
      (pss_one (ps_if (pt_cmpR op_ne (pv 4) pe_int (nomark _))
        (pss_one (ps_for PassesOwn.never rfl (pi_enum (by rfl) T.b_enumerate (pa_cons (pe_ix (r := rIxL K) ix_list (pv 0) (pv 3) (fun _ _ => rfl)) pa_nil)) (pg_tup rfl (pgs_cons (pg_name (i := 5) sc_passed.nd rfl (Or.inl rfl)) (pgs_cons (pg_name (i := 6) sc_passed.nd rfl (Or.inl rfl)) pgs_nil)))
          (pss_one (ps_asg (pe_op op_add (pe_ix (r := rIxL K) ix_list (pv 2) (pv 5) (fun _ _ => rfl)) (pe_op op_mul (pv 4) (pv 6))) (pg_sub (pv 2) (pv 5) set_list)))))
        pss_nil)))
      (pss_one (ps_ret (pv 2))))), ?_⟩
    have hkl : (keysOf rs).length = rs.length := by
      unfold keysOf
      rw [List.length_map]
    have hcl : (cntM (keysOf rs) t).length = rs.length := by
      unfold cntM
      rw [List.length_map, hkl]
    have h8 := ok.len
    refine ⟨_, rfl, am, rfl, ⟨_, ham⟩, fun fo nf => ?_⟩
    refine lcn_val (walk_list (xs := intsV (cntM (keysOf rs) t))) (fun _ => .int 0) (by rw [List.length_map, hcl]; omega) nf (fun H' sm => sm.seq ham) (fun _ => rfl) (fun i x H' H'' Qc hlt sm y qc => ?_) (fun H1 s1 e1 => ?_)
    · obtain ⟨rfl, _⟩ := y
      exact qc H'' (Same.refl _)
    have e0 : ((List.range (intsV (cntM (keysOf rs) t)).length).map fun _ => V.int 0) = intsV (accM (keysOf rs) (wOf rs) t 0) := by
      rw [accM_zero]
      show _ = ((keysOf rs).map fun _ => (0 : Int)).map V.int
      rw [List.map_map, List.length_map, hcl, ← hkl]
      exact range_get _ _ _ fun i c hc => rfl
    rw [e0] at e1
    refine ⟨_, rfl, am, _, rfl, s1.seq ham, ?_⟩
    refine for_it (walk_enum (xs := intsV (cntM (keysOf rs) t))) (fun i σ H' => ∃ y3 y4 y5 y6 y7, σ = [some (.ref rt), some (.ref am), some (.ref fo), y3, y4, y5, y6, y7] ∧ Same H H' ∧ H' fo = some (.lst (intsV (accM (keysOf rs) (wOf rs) t i))))
      ⟨none, none, none, none, none, rfl, s1, e1⟩ (fun i σ H' _ pp => ?_) (fun i x σ H' H'' hlt pp y => ?_) (fun σ H' pp => ?_)
    · obtain ⟨_, _, _, _, _, _, sm, _⟩ := pp
      exact sm.seq ham
    · obtain ⟨y3, y4, y5, y6, y7, rfl, sm, ef⟩ := pp
      obtain ⟨T', x1, x2, rfl, nT, rfl, g1, g2⟩ := y
      have ex1 : x1 = .int ((i : Nat) : Int) := (Option.some.inj g1).symm
      subst ex1
      rw [List.length_map, hcl] at hlt
      have hp : rs[i]? = some rs[i] := List.getElem?_eq_getElem hlt
      generalize rs[i] = r at hp
      have hkey : (keysOf rs)[i]? = some r.1 := keys_get hp
      have hw : wOf rs r.1 = r.2 := wOf_mem ok.nd (List.mem_of_getElem? hp)
      have g2' : (intsV (cntM (keysOf rs) t))[i]? = some x2 := g2
      have ex2 : x2 = .int (t.count r.1 : Int) := by
        unfold cntM at g2'
        rw [List.getElem?_map, List.getElem?_map, hkey] at g2'
        exact (Option.some.inj g2').symm
      subst ex2
      have sT : Same H' (upd H' T' (.tup [.int ((i : Nat) : Int), .int (t.count r.1 : Int)])) := same_new nT
      have s2 := sm.trans sT
      have ef2 := sT _ _ ef
      refine ⟨T', _, rfl, tup_of upd_same, rfl, _, _, rfl, _, _, rfl, rfl, ?_⟩
      generalize upd H' T' (.tup [.int ((i : Nat) : Int), .int (t.count r.1 : Int)]) = H2 at sT s2 ef2
      refine ⟨_, rfl, rfl, _, rfl, ite2 (fun e => ?_) (fun e => ?_)⟩
      · -- the rates
        have hd0 : ds[i]? = some (ds[i]'(by omega)) := List.getElem?_eq_getElem (by omega)
        generalize (ds[i]'(by omega)) = d at hd0
        have hd := s2.seq (hds i d r hd0 hp)
        have hx : (ds.map V.ref)[i]? = some (.ref d) := by
          rw [List.getElem?_map, hd0]
          rfl
        have hal := acc_len (keysOf rs) (wOf rs) t i
        have hbl := acc_len (keysOf rs) (wOf rs) t (i + 1)
        refine ⟨_, rfl, _, rfl, rt, _, _, _, rfl, rfl, s2.seq hrt, at_of rfl hx, d, _, rfl, hd, ?_⟩
        refine for_it (walk_enum (xs := intsV (cntM (keysOf rs) r.2))) (fun j σ H' => ∃ y5 y6, σ = [some (.ref rt), some (.ref am), some (.ref fo), some (.int ((i : Nat) : Int)), some (.int (t.count r.1 : Int)), y5, y6, y7] ∧ Same H H' ∧ H' fo = some (.lst (intsV (mixM (accM (keysOf rs) (wOf rs) t i) (accM (keysOf rs) (wOf rs) t (i + 1)) j))))
          ⟨_, _, rfl, s2, ef2⟩ (fun j σ H' _ pp => ?_) (fun j x σ H3 H4 hj pp y => ?_) (fun σ H3 pp => ?_)
        · obtain ⟨_, _, _, sm3, _⟩ := pp
          exact sm3.seq (hds i d r hd0 hp)
        · obtain ⟨y5, y6, rfl, sm3, ef3⟩ := pp
          obtain ⟨T2, x1, x2, rfl, nT2, rfl, g3, g4⟩ := y
          have ex1 : x1 = .int ((j : Nat) : Int) := (Option.some.inj g3).symm
          subst ex1
          unfold cntM at hj
          rw [List.length_map, List.length_map, hkl] at hj
          have hp2 : rs[j]? = some rs[j] := List.getElem?_eq_getElem hj
          generalize rs[j] = r2 at hp2
          have hkey2 : (keysOf rs)[j]? = some r2.1 := keys_get hp2
          have g4' : (intsV (cntM (keysOf rs) r.2))[j]? = some x2 := g4
          have ex2 : x2 = .int (r.2.count r2.1 : Int) := by
            unfold cntM at g4'
            rw [List.getElem?_map, List.getElem?_map, hkey2] at g4'
            exact (Option.some.inj g4').symm
          subst ex2
          have sT2 : Same H3 (upd H3 T2 (.tup [.int ((j : Nat) : Int), .int (r.2.count r2.1 : Int)])) := same_new nT2
          obtain ⟨a, ha, hb⟩ := accM_get (w := wOf rs) (t := t) hkey hkey2
          rw [hw] at hb
          have hmx := mix_get (hal.trans hbl.symm) ha
          have hmx2 : (intsV (mixM (accM (keysOf rs) (wOf rs) t i) (accM (keysOf rs) (wOf rs) t (i + 1)) j))[j]? = some (.int a) := by
            rw [List.getElem?_map, hmx]
            rfl
          have ef4 := sT2 _ _ ef3
          refine ⟨T2, _, rfl, tup_of upd_same, rfl, _, _, rfl, _, _, rfl, rfl, ?_⟩
          have hrate : (r.2.count r2.1 : Int) ≤ 6 := by
            have h1 := (ok.word r (List.mem_of_getElem? hp)).1
            have h2 := List.count_le_length (a := r2.1) (l := r.2)
            omega
          refine ⟨_, rfl, _, rfl, fo, _, _, _, rfl, rfl, lst_of ef4, at_of rfl hmx2, _, rfl, _, rfl, _, _, rfl, rfl, .inr ⟨by omega, by omega⟩, _, _, rfl, rfl, ?_⟩
          refine ⟨_, rfl, _, rfl, fo, _, _, j, rfl, rfl, ef4, ?_, ?_⟩
          · unfold ixN
            rw [if_pos (by omega), if_pos]
            · rfl
            · rw [List.length_map, mix_len (hal.trans hbl.symm) (by rw [hal, hkl]; omega), hal, hkl]
              omega
          · refine ⟨_, _, rfl, same_mut (sm3.trans sT2) nf, ?_⟩
            rw [upd_same, ← mix_set (hal.trans hbl.symm) hb]
            show some (HO.lst _) = some (HO.lst (((mixM _ _ j).set j _).map V.int))
            rw [List.map_set]
        · obtain ⟨y5, y6, rfl, sm3, ef3⟩ := pp
          refine ⟨_, _, _, _, _, rfl, sm3, ?_⟩
          rw [ef3]
          have : (intsV (cntM (keysOf rs) r.2)).length = rs.length := by
            unfold cntM
            rw [List.length_map, List.length_map, hkl]
          rw [this]
          unfold mixM
          rw [List.take_of_length_le (by rw [hbl, hkl]; exact Nat.le_refl _), List.drop_of_length_le (by rw [hal, hkl]; exact Nat.le_refl _), List.append_nil]
      · have hz : t.count r.1 = 0 := by
          have : ¬ (!decide (V.int (t.count r.1 : Int) = V.int 0)) = true := e
          have h2 : V.int (t.count r.1 : Int) = V.int 0 := by
            by_cases h : V.int (t.count r.1 : Int) = V.int 0
            · exact h
            · exact absurd (by rw [decide_eq_false h]; rfl) this
          have := V.int.inj h2
          omega
        refine ⟨_, _, _, _, _, rfl, s2, ?_⟩
        rw [ef2, accM_skip hkey hz]
    · obtain ⟨y3, y4, y5, y6, y7, rfl, sm, ef⟩ := pp
      rw [List.length_map, hcl, ← hkl, accM_end ok.nd hm] at ef
      exact ⟨_, rfl, q H' fo sm nf ef⟩
/-! ### counts_from, counts, length -/
def spCountsFrom (K : PySem.W.Frag) : Sp := fun vs H Q _ => ∃ (rt am : Addr) (rs : Rls) (t : Tx) (n : Nat), vs = [.ref rt, .ref am, .int (n : Int)] ∧ TableAt K H rt rs ∧ SqL K H am (intsV (cntM (keysOf rs) t)) ∧ RlsOk rs ∧ (∀ c ∈ t, c ∈ keysOf rs) ∧ n ≤ 300 ∧
  ∀ H' p, Same H H' → SqL K H' p (intsV (cntM (keysOf rs) (rowN (wOf rs) n t))) → Q (.ref p) H'
theorem c_counts_from (T : Facts K mg) : C8.Cal P w K mg base 2 "counts_from" (spCountsFrom K) [] := by
  refine cal T.d_counts_from sc_counts_from (fun vs H Q E h => ?_) (fun f cdv A outer s H vs Q E hr h => ?_)
  · obtain ⟨rt, am, rs, t, n, rfl, _⟩ := h
    rfl
  · obtain ⟨rt, am, rs, t, n, rfl, ht, ham, ok, hm, hn, q⟩ := h
    refine ⟨_, (pss_cons (ps_for PassesOwn.never rfl (pi_range1 rfl T.b_range (pa_cons (pv 2) pa_nil)) (pg_name (i := 3) sc_counts_from.nd rfl (Or.inl rfl))
      (pss_one (ps_set (i := 1) sc_counts_from.nd rfl (Or.inl rfl) (C8.pe_c (c_passed T) hr (by decide) rfl (pa_cons (pv 0) (pa_cons (pv 1) pa_nil))))))
      (pss_one (ps_ret (pv 1)))), ?_⟩
    refine ⟨_, rfl, _, rfl, by omega, by omega, ?_⟩
    refine for_it walk_range (fun i σ H' => ∃ (p : Addr) (y3 : Option V), σ = [some (.ref rt), some (.ref p), some (.int (n : Int)), y3] ∧ Same H H' ∧ SqL K H' p (intsV (cntM (keysOf rs) (rowN (wOf rs) i t))))
      ⟨am, none, rfl, .refl _, ham⟩ (fun _ _ _ _ _ => trivial) (fun i x σ H' H'' hlt pp y => ?_) (fun σ H' pp => ?_)
    · obtain ⟨p, y3, rfl, sm, hp⟩ := pp
      obtain ⟨rfl, rfl⟩ := y
      refine ⟨_, rfl, _, rfl, rt, p, rs, _, rfl, ht.same sm, hp, ok, rowN_mem ok.wmem i hm, fun H3 p3 s3 n3 e3 => ?_⟩
      rw [← rowN_succ] at e3
      exact ⟨p3, _, rfl, sm.trans s3, lst_of e3⟩
    · obtain ⟨p, y3, rfl, sm, hp⟩ := pp
      rw [show ((n : Int)).toNat = n by omega] at hp
      exact ⟨_, rfl, q H' p sm hp⟩
def spCounts (K : PySem.W.Frag) : Sp := fun vs H Q _ => ∃ (b : V) (first : Tx) (rs : Rls) (n : Nat), vs = [b, .int (n : Int)] ∧ Asked K H b first rs n ∧ ∀ H' p, Same H H' → SqL K H' p (intsV (cntM (keysOf rs) (rowN (wOf rs) n first))) → Q (.ref p) H'
theorem c_counts (T : Facts K mg) : C8.Cal P w K mg base 3 "counts" (spCounts K) [] := by
  refine cal T.d_counts sc_counts (fun vs H Q E h => ?_) (fun f cdv A outer s H vs Q E hr h => ?_)
  · obtain ⟨b, first, rs, n, rfl, _⟩ := h
    rfl
  · obtain ⟨b, first, rs, n, rfl, ⟨hb, ok, hn, hl, hm⟩, q⟩ := h
    refine ⟨_, (pss_cons (ps_expr (C8.pe_c (c_need_age T) hr (by decide) rfl (pa_cons (pv 1) pa_nil)))
      (pss_one (ps_ret (C8.pe_c (c_counts_from T) hr (by decide) rfl (pa_cons (C8.pe_c (c_table T) hr (by decide) rfl (pa_cons (pv 0) pa_nil)) (pa_cons (C8.pe_c (c_tally T) hr (by decide) rfl (pa_cons (C8.pe_c (c_letters T) hr (by decide) rfl (pa_cons (pv 0) pa_nil)) (pa_cons (pe_ix (r := rIxT K) ix_tup (pv 0) pe_int (fun _ _ => rfl)) pa_nil))) (pa_cons (pv 1) pa_nil))))))), ?_⟩
    refine ⟨_, rfl, n, rfl, hn, ?_⟩
    refine ⟨_, rfl, b, first, rs, rfl, hb, ok, fun H1 rt s1 hrt => ?_⟩
    refine ⟨_, rfl, b, first, rs, rfl, hb.same s1, ok.len, fun H2 s2 => ?_⟩
    have s02 := s1.trans s2
    obtain ⟨a, r, rfl, ha, _⟩ := id hb
    refine ⟨_, rfl, a, _, 0, tv first, rfl, rfl, same_tup s02 ha, at0, keysOf rs, first, rfl, by have := ok.klen; omega, fun H3 am s3 _ eam => ?_⟩
    refine ⟨_, rfl, rt, am, rs, first, n, rfl, hrt.same (s2.trans s3), lst_of eam, ok, hm, hn, fun H4 p s4 hp => ?_⟩
    exact q H4 p ((s02.trans s3).trans s4) hp
def spLength (K : PySem.W.Frag) : Sp := fun vs H Q _ => ∃ (b : V) (first : Tx) (rs : Rls) (n : Nat), vs = [b, .int (n : Int)] ∧ Asked K H b first rs n ∧ ∀ H', Same H H' → Q (.int ((rowN (wOf rs) n first).length : Int)) H'
theorem c_length (T : Facts K mg) : C8.Cal P w K mg base 4 "length" (spLength K) [] := by
  refine cal T.d_length sc_length (fun vs H Q E h => ?_) (fun f cdv A outer s H vs Q E hr h => ?_)
  · obtain ⟨b, first, rs, n, rfl, _⟩ := h
    rfl
  · obtain ⟨b, first, rs, n, rfl, ask, q⟩ := h
    refine ⟨_, (pss_one (ps_ret (pe_callB (r := rSum K) (cr_sum rfl) (by rfl) T.b_sum (by decide +kernel) (pa_cons (C8.pe_c (c_counts T) hr (by decide) rfl (pa_cons (pv 0) (pa_cons (pv 1) pa_nil))) pa_nil)))), ?_⟩
    refine ⟨_, rfl, _, rfl, b, first, rs, n, rfl, ask, fun H' p sm hp => ⟨p, _, rfl, hp, ?_⟩⟩
    rw [cnt_sum ask.ok.nd (rowN_mem ask.ok.wmem n ask.mem)]
    exact q H' sm
end
end Lg
/-! the law's questions walked: _law_whole, _law_by_letters, _law_same, _law_parted -/
namespace Lg
open PySem PySem.Spec PyProof.Rows L2
theorem valV_mem {kvs : List (Key × V)} (nd : (kvs.map (·.1)).Nodup) {p : Key × V} (h : p ∈ kvs) : valV kvs p.1 = some p.2 := by
  induction kvs with
  | nil => simp at h
  | cons q l ih =>
    have nd' := List.nodup_cons.mp nd
    rcases List.mem_cons.mp h with h | h
    · subst h
      exact valV_pos rfl
    · rw [valV_neg]
      · exact ih nd'.2 h
      · intro e
        refine nd'.1 ?_
        show q.1 ∈ _
        rw [e]
        exact List.mem_map.mpr ⟨p, h, rfl⟩
/-- the letters that are there, with how many -/
def byL (ls : List Nat) (xs : List Int) : List (Key × V) := ((ls.zip xs).filter fun p => decide (p.2 ≠ 0)).map fun p => (Sum.inr (S [p.1]), .int p.2)
theorem byL_keys (ls : List Nat) (xs : List Int) : ∀ kv ∈ byL ls xs, ∃ c ∈ ls, kv.1 = Sum.inr (S [c]) := by
  intro kv h
  unfold byL at h
  obtain ⟨p, hp, rfl⟩ := List.mem_map.mp h
  have h1 := (List.mem_filter.mp hp).1
  exact ⟨p.1, (List.of_mem_zip (a := p.1) (b := p.2) h1).1, rfl⟩
theorem byL_nodup : ∀ {ls : List Nat} (xs : List Int), ls.Nodup → ((byL ls xs).map (·.1)).Nodup
  | [], _, _ => List.Pairwise.nil
  | c :: ls, [], _ => List.Pairwise.nil
  | c :: ls, x :: xs, nd => by
    have nd' := List.nodup_cons.mp nd
    have ih := byL_nodup xs nd'.2
    unfold byL
    rw [List.zip_cons_cons, List.filter_cons]
    split
    · rw [List.map_cons, List.map_cons]
      refine List.nodup_cons.mpr ⟨fun h => ?_, ih⟩
      obtain ⟨kv, hkv, e⟩ := List.mem_map.mp h
      obtain ⟨d, hd, e2⟩ := byL_keys ls xs kv hkv
      have e3 : (Sum.inr (S [d]) : Key) = Sum.inr (S [c]) := e2.symm.trans e
      by_cases hdc : d = c
      · subst hdc
        exact nd'.1 hd
      · exact key_ne hdc e3
    · exact ih
theorem byL_flat (ls : List Nat) (xs : List Int) : ∀ kv ∈ byL ls xs, flatB kv.2 = true := by
  intro kv h
  unfold byL at h
  obtain ⟨p, _, rfl⟩ := List.mem_map.mp h
  rfl
theorem byL_snoc {ls : List Nat} {xs : List Int} {k c : Nat} {x : Int} (h1 : ls[k]? = some c) (h2 : xs[k]? = some x) : byL (ls.take (k + 1)) (xs.take (k + 1)) = if x ≠ 0 then byL (ls.take k) (xs.take k) ++ [(Sum.inr (S [c]), .int x)] else byL (ls.take k) (xs.take k) := by
  have hk1 := (List.getElem?_eq_some_iff.mp h1).1
  have hk2 := (List.getElem?_eq_some_iff.mp h2).1
  unfold byL
  rw [List.take_add_one, List.take_add_one, h1, h2, List.zip_append (by rw [List.length_take, List.length_take]; omega), List.filter_append]
  show List.map _ (_ ++ List.filter _ [(c, x)]) = _
  by_cases h : x ≠ 0
  · rw [if_pos h, List.filter_cons, if_pos (decide_eq_true h), List.map_append]
    rfl
  · rw [if_neg h, List.filter_cons, if_neg (fun z => h (of_decide_eq_true z))]
    show List.map _ (_ ++ []) = _
    rw [List.append_nil]
theorem byL_new {ls : List Nat} {xs : List Int} {k c : Nat} (nd : ls.Nodup) (h1 : ls[k]? = some c) : valV (byL (ls.take k) (xs.take k)) (Sum.inr (S [c])) = none := by
  cases hv : valV (byL (ls.take k) (xs.take k)) (Sum.inr (S [c])) with
  | none => rfl
  | some v =>
    exfalso
    unfold valV at hv
    rw [Option.map_eq_some_iff] at hv
    obtain ⟨kv, hkv, _⟩ := hv
    have hm := List.mem_of_find?_eq_some hkv
    have he : kv.1 = Sum.inr (S [c]) := of_decide_eq_true (List.find?_some (p := fun kv : Key × V => decide (kv.1 = Sum.inr (S [c]))) hkv)
    obtain ⟨d, hd, e2⟩ := byL_keys _ _ kv hm
    have e3 : (Sum.inr (S [d]) : Key) = Sum.inr (S [c]) := e2.symm.trans he
    by_cases hdc : d = c
    · subst hdc
      rw [List.mem_take_iff_getElem] at hd
      obtain ⟨j, hj, e4⟩ := hd
      obtain ⟨h3, h4⟩ := List.getElem?_eq_some_iff.mp h1
      have := (List.getElem_inj nd).mp (e4.trans h4.symm)
      omega
    · exact key_ne hdc e3
section
variable {P : Program} {w : World} {K : PySem.W.Frag} {mg : Str → Option Value} {base : Heap}
theorem c_law_whole (T : Facts K mg) : C8.Cal P w K mg base 1 "_law_whole" spWhole [] := by
  refine cal T.d_law_whole sc_law_whole (fun vs H Q E h => ?_) (fun f cdv A outer s H vs Q E hr h => ?_)
  · obtain ⟨n, rfl, _⟩ := h
    rfl
  · obtain ⟨n, rfl, q⟩ := h
    refine ⟨_, (pss_one (ps_ret (pe_and (pe_callB call_isi (by rfl) T.b_isinstance (by decide +kernel) (pa_cons (pv 0) (pa_cons (pe_bltn (v := .ty "int") (u := .type "int") rfl T.b_int (by decide +kernel) rfl) pa_nil))) (pe_one (pe_not (pe_callB call_isi (by rfl) T.b_isinstance (by decide +kernel) (pa_cons (pv 0) (pa_cons (pe_bltn (v := .ty "bool") (u := .type "bool") rfl T.b_bool (by decide +kernel) rfl) pa_nil)))))))), ?_⟩
    refine ⟨.int n, rfl, .int n, .ty "int", .type "int", .type "int", true, rfl, .ty "int", (.base (.int _)), kit_ty (by decide +kernel), true, rfl, ?_⟩
    refine iteT ?_
    refine ⟨.int n, rfl, .int n, .ty "bool", .type "int", .type "bool", false, rfl, .ty "bool", (.base (.int _)), kit_ty (by decide +kernel), false, rfl, ?_⟩
    exact q
def spByLetters (K : PySem.W.Frag) : Sp := fun vs H Q _ => ∃ (b : V) (first : Tx) (rs : Rls) (p : Addr) (xs : List Int), vs = [b, .ref p] ∧ BookAt K H b first rs ∧ RlsOk rs ∧ SqL K H p (intsV xs) ∧ xs.length = rs.length ∧
  ∀ H' d, Same H H' → H' d = some (.dK (byL (keysOf rs) xs)) → Q (.ref d) H'
theorem c_law_by_letters (T : Facts K mg) : C8.Cal P w K mg base 1 "_law_by_letters" (spByLetters K) [] := by
  refine cal T.d_law_by_letters sc_law_by_letters (fun vs H Q E h => ?_) (fun f cdv A outer s H vs Q E hr h => ?_)
  · obtain ⟨b, first, rs, p, xs, rfl, _⟩ := h
    rfl
  · obtain ⟨b, first, rs, p, xs, rfl, ⟨a, r, rfl, ha, ts, ht, hl, hi⟩, ok, hp, hxl, q⟩ := h
    have hkl : (keysOf rs).length = rs.length := by
      unfold keysOf
      rw [List.length_map]
    have h8 := ok.len
    refine ⟨_, (pss_cons (ps_set (i := 2) sc_law_by_letters.nd rfl (Or.inl rfl) pe_dnewK)
      (pss_cons (ps_for PassesOwn.never rfl (pi_range1 rfl T.b_range (pa_cons (pe_callB call_len_seq (by rfl) T.b_len PySem.boot_len (pa_cons (pe_ix (r := rIxT K) ix_tup (pv 0) pe_int (fun _ _ => rfl)) pa_nil)) pa_nil)) (pg_name (i := 3) sc_law_by_letters.nd rfl (Or.inl rfl))
      (pss_one (ps_if (pt_cmpR op_ne (pe_ix (r := rIxL K) ix_list (pv 1) (pv 3) (fun _ _ => rfl)) pe_int (nomark _))
        (pss_one (ps_dput (hu_of hr) (pv 2) (pe_ix (r := rIxT K) ix_tup (pe_ix (r := rIxT K) ix_tup (pe_ix (r := rIxT K) ix_tup (pv 0) pe_int (fun _ _ => rfl)) (pv 3) (fun _ _ => rfl)) pe_int (fun _ _ => rfl)) (pe_ix (r := rIxL K) ix_list (pv 1) (pv 3) (fun _ _ => rfl)) rfl))
        pss_nil)))
      (pss_one (ps_ret (pv 2))))), ?_⟩
    refine fun d nd => ?_
    have s1 : Same H (upd H d (.dK [])) := same_new nd
    refine ⟨_, rfl, a, _, 1, .ref r, rfl, rfl, same_tup s1 ha, at1, r, _, rfl, .inr (same_tup s1 ht), _, rfl, by rw [List.length_map]; omega, by rw [List.length_map]; omega, ?_⟩
    have hn : (((ts.map V.ref).length : Int)).toNat = rs.length := by
      rw [List.length_map]
      omega
    rw [hn]
    refine for_it walk_range (fun i σ H' => ∃ y3, σ = [some (.ref a), some (.ref p), some (.ref d), y3] ∧ Same H H' ∧ H' d = some (.dK (byL ((keysOf rs).take i) (xs.take i))))
      ⟨none, rfl, s1, upd_same⟩ (fun _ _ _ _ _ => trivial) (fun i x σ H' H'' hlt pp y => ?_) (fun σ H' pp => ?_)
    · obtain ⟨y3, rfl, sm, ed⟩ := pp
      obtain ⟨rfl, ex⟩ := y
      have ex2 : x = .int (i : Int) := ex.trans (congrArg V.int (Int.zero_add _))
      subst ex2
      have hr' : rs[i]? = some rs[i] := List.getElem?_eq_getElem hlt
      generalize rs[i] = u at hr'
      have hc : (keysOf rs)[i]? = some u.1 := keys_get hr'
      have hx : xs[i]? = some (xs[i]'(by omega)) := List.getElem?_eq_getElem (by omega)
      generalize (xs[i]'(by omega)) = x at hx
      have hxv : (intsV xs)[i]? = some (.int x) := by
        rw [List.getElem?_map, hx]
        rfl
      have ht' : ts[i]? = some (ts[i]'(by omega)) := List.getElem?_eq_getElem (by omega)
      generalize (ts[i]'(by omega)) = t at ht'
      have htv : (ts.map V.ref)[i]? = some (.ref t) := by
        rw [List.getElem?_map, ht']
        rfl
      have hsn := byL_snoc hc hx
      refine ⟨_, rfl, _, rfl, p, _, _, _, rfl, rfl, sm.seq hp, at_of rfl hxv, rfl, _, rfl, ite2 (fun e => ?_) (fun e => ?_)⟩
      · have hx0 : x ≠ 0 := fun z => by
          subst z
          simp at e
        rw [if_pos hx0] at hsn
        refine ⟨_, rfl, _, rfl, p, _, _, _, rfl, rfl, sm.seq hp, at_of rfl hxv, ?_⟩
        refine ⟨_, rfl, _, rfl, a, _, 1, .ref r, rfl, rfl, same_tup sm ha, at1, _, rfl, r, _, _, _, rfl, rfl, same_tup sm ht, at_of rfl htv, t, _, 0, _, rfl, rfl, same_tup sm (hi i t u ht' hr'), at0, d, _, rfl, DPut.k (k := Sum.inr (S [u.1])) ed ?_, ?_⟩
        · refine small' ?_
          unfold byL
          rw [List.length_map]
          refine Nat.le_trans (List.length_filter_le _ _) ?_
          rw [List.length_zip, List.length_take]
          omega
        · refine ⟨_, rfl, same_mut sm nd, ?_⟩
          rw [upd_same, putK_new _ (byL_new ok.nd hc), hsn]
      · have hx0 : ¬ x ≠ 0 := fun z => e (by rw [decide_eq_false (fun h => z (V.int.inj h))]; rfl)
        rw [if_neg hx0] at hsn
        exact ⟨_, rfl, sm, by rw [ed, hsn]⟩
    · obtain ⟨y3, rfl, sm, ed⟩ := pp
      rw [List.take_of_length_le (by omega), List.take_of_length_le (by omega)] at ed
      exact ⟨_, rfl, q H' d sm ed⟩
/-! ### _law_same -/
theorem Asked.same {H H' : Hp} {b : V} {first : Tx} {rs : Rls} {n : Nat} (h : Asked K H b first rs n) (e : Same H H') : Asked K H' b first rs n := ⟨h.book.same e, h.ok, h.age, h.len, h.mem⟩
def spSame (K : PySem.W.Frag) : Sp := fun vs H Q _ => ∃ (b1 b2 : V) (f1 f2 : Tx) (r1 r2 : Rls) (n : Nat) (g : Int), vs = [b1, b2, .int (n : Int), .int g] ∧ Asked K H b1 f1 r1 n ∧ Asked K H b2 f2 r2 n ∧ keysOf r2 = keysOf r1 ∧ rowN (wOf r2) n f2 = rowN (wOf r1) n f1 ∧ ∀ H', Same H H' → Q (.bl true) H'
theorem c_law_same (T : Facts K mg) : C8.Cal P w K mg base 5 "_law_same" (spSame K) [] := by
  refine cal T.d_law_same sc_law_same (fun vs H Q E h => ?_) (fun f cdv A outer s H vs Q E hr h => ?_)
  · obtain ⟨b1, b2, f1, f2, r1, r2, n, g, rfl, _⟩ := h
    rfl
  · obtain ⟨b1, b2, f1, f2, r1, r2, n, g, rfl, k1, k2, hk, hrow, q⟩ := h
    refine ⟨_, (pss_cons (ps_set (i := 4) sc_law_same.nd rfl (Or.inl rfl) (C8.pe_c (c_length T) hr (by decide) rfl (pa_cons (pv 0) (pa_cons (pv 2) pa_nil))))
      (pss_cons (ps_if (PW.pt (pw_or (pt_not (pt_val (C8.pe_c (c_law_whole T) hr (by decide) rfl (pa_cons (pv 4) pa_nil)))) (pw_or1 (pt_cmpR op_ne (pv 4) (C8.pe_c (c_length T) hr (by decide) rfl (pa_cons (pv 1) (pa_cons (pv 2) pa_nil))) (nomark _)))))
      (pss_one (ps_ret pe_bl))
      pss_nil)
      (pss_cons (ps_if (pt_cmpR (op_ne_dictA hr.units0) (C8.pe_c (c_law_by_letters T) hr (by decide) rfl (pa_cons (pv 0) (pa_cons (C8.pe_c (c_counts T) hr (by decide) rfl (pa_cons (pv 0) (pa_cons (pv 2) pa_nil))) pa_nil))) (C8.pe_c (c_law_by_letters T) hr (by decide) rfl (pa_cons (pv 1) (pa_cons (C8.pe_c (c_counts T) hr (by decide) rfl (pa_cons (pv 1) (pa_cons (pv 2) pa_nil))) pa_nil))) (nomark _))
      (pss_one (ps_ret pe_bl))
      pss_nil)
      (pss_cons (ps_if (pt_cmpR op_lt (pv 4) pe_int (nomark _))
      (pss_one (ps_ret (pe_cmpR op_eq (pv 4) pe_int (nomark _))))
      pss_nil)
      (pss_cons (ps_set (i := 5) sc_law_same.nd rfl (Or.inl rfl) (pe_op op_modN (pv 3) (pv 4)))
      (pss_cons (ps_set (i := 6) sc_law_same.nd rfl (Or.inl rfl) (C8.pe_c (c_letter_at T) hr (by decide) rfl (pa_cons (pv 0) (pa_cons (pv 2) (pa_cons (pv 5) pa_nil)))))
      (pss_cons (ps_if (PW.pt (pw_or (pt_not (pt_val (pe_callB call_isi (by rfl) T.b_isinstance (by decide +kernel) (pa_cons (pv 6) (pa_cons (pe_bltn (v := .ty "str") (u := .type "str") rfl T.b_str (by decide +kernel) rfl) pa_nil))))) (pw_or1 (pt_cmpR op_ne (C8.pe_c (c_letter_at T) hr (by decide) rfl (pa_cons (pv 1) (pa_cons (pv 2) (pa_cons (pv 5) pa_nil)))) (pv 6) (nomark _)))))
      (pss_one (ps_ret pe_bl))
      pss_nil)
      (pss_cons (ps_set (i := 7) sc_law_same.nd rfl (Or.inl rfl) (pe_callB (call_min2 rfl) (by rfl) T.b_min (by decide +kernel) (pa_cons pe_int (pa_cons (pe_op op_sub (pv 4) (pv 5)) pa_nil))))
      (pss_cons (ps_set (i := 8) sc_law_same.nd rfl (Or.inl rfl) (C8.pe_c (c_stretch T) hr (by decide) rfl (pa_cons (pv 0) (pa_cons (pv 2) (pa_cons (pv 5) (pa_cons (pv 7) pa_nil))))))
      (pss_cons (ps_if (PW.pt (pw_or (pt_not (pt_val (pe_callB call_isi (by rfl) T.b_isinstance (by decide +kernel) (pa_cons (pv 8) (pa_cons (pe_bltn (v := .ty "str") (u := .type "str") rfl T.b_str (by decide +kernel) rfl) pa_nil))))) (pw_or (pt_cmpR op_ne (pe_callB call_len (by rfl) T.b_len PySem.boot_len (pa_cons (pv 8) pa_nil)) (pv 7) (nomark _)) (pw_or1 (pt_cmpR op_ne (pe_ix (r := rIxS) ix_str (pv 8) pe_int (fun _ _ => rfl)) (pv 6) (nomark _))))))
      (pss_one (ps_ret pe_bl))
      pss_nil)
      (pss_cons (ps_if (pt_cmpR op_ne (C8.pe_c (c_stretch T) hr (by decide) rfl (pa_cons (pv 1) (pa_cons (pv 2) (pa_cons (pv 5) (pa_cons (pv 7) pa_nil))))) (pv 8) (nomark _))
      (pss_one (ps_ret pe_bl))
      pss_nil)
      (pss_one (ps_ret (pe_cmpR op_eq (C8.pe_c (c_ahead T) hr (by decide) rfl (pa_cons (pv 0) (pa_cons (pv 2) (pa_cons (pv 5) (pa_cons (pv 6) pa_nil))))) (C8.pe_c (c_ahead T) hr (by decide) rfl (pa_cons (pv 1) (pa_cons (pv 2) (pa_cons (pv 5) (pa_cons (pv 6) pa_nil))))) (nomark _))))))))))))))), ?_⟩
    have hmem := rowN_mem k1.ok.wmem n k1.mem
    have hcl : ∀ t : Tx, (cntM (keysOf r1) t).length = r1.length := fun t => by
      unfold cntM keysOf
      rw [List.length_map, List.length_map]
    have hrl : r2.length = r1.length := by
      have := congrArg List.length hk
      unfold keysOf at this
      rw [List.length_map, List.length_map] at this
      exact this
    generalize hR : rowN (wOf r1) n f1 = R at hrow hmem
    -- the lengths
    refine ⟨_, rfl, _, rfl, b1, f1, r1, n, rfl, k1, fun H1 s1 => ?_⟩
    rw [hR]
    refine ⟨_, rfl, _, rfl, true, rfl, iteF ?_⟩
    refine ⟨_, rfl, _, rfl, _, rfl, b2, f2, r2, n, rfl, k2.same s1, fun H2 s2 => ⟨rfl, ?_⟩⟩
    have s02 := s1.trans s2
    rw [hrow]
    refine ⟨_, rfl, ?_⟩
    rw [decide_eq_true rfl]
    refine iteF ?_
    -- the counts
    refine ⟨_, rfl, _, rfl, _, rfl, b1, f1, r1, n, rfl, k1.same s02, fun H3 p1 s3 h1 => ?_⟩
    have s03 := s02.trans s3
    rw [hR] at h1
    refine ⟨b1, f1, r1, p1, _, rfl, (k1.same s03).book, k1.ok, h1, hcl R, fun H4 d1 s4 e1 => ?_⟩
    have s04 := s03.trans s4
    refine ⟨_, rfl, _, rfl, _, rfl, b2, f2, r2, n, rfl, k2.same s04, fun H5 p2 s5 h2 => ?_⟩
    have s05 := s04.trans s5
    rw [hrow, hk] at h2
    refine ⟨b2, f2, r2, p2, _, rfl, (k2.same s05).book, k2.ok, h2, by rw [hcl R, hrl], fun H6 d2 s6 e2 => ?_⟩
    have s06 := s05.trans s6
    rw [hk] at e2
    refine ⟨d1, d2, _, _, rfl, rfl, s6 _ _ (s5 _ _ e1), e2, rfl, fun kv hkv => ⟨valV_mem (byL_nodup _ k1.ok.nd) hkv, byL_flat _ _ kv hkv⟩, _, rfl, iteF ?_⟩
    -- no letters
    refine ⟨_, rfl, _, _, rfl, rfl, _, rfl, ite2 (fun e => ?_) (fun e => ?_)⟩
    · have h0 : (R.length : Int) = 0 := by
        have := of_decide_eq_true e
        omega
      refine ⟨_, rfl, rfl, ?_⟩
      rw [h0, decide_eq_true rfl]
      exact q H6 s06
    have hpos : 0 < R.length := by
      have : ¬ ((R.length : Int) < 1) := fun h => e (decide_eq_true h)
      omega
    refine ⟨_, rfl, _, rfl, _, _, rfl, rfl, by omega, ?_⟩
    obtain ⟨p, hp, hpl⟩ : ∃ p : Nat, g.fmod (R.length : Int) = (p : Int) ∧ p < R.length := by
      have h1 := Int.fmod_nonneg_of_pos g (b := (R.length : Int)) (by omega)
      have h2 := Int.fmod_lt_of_pos g (b := (R.length : Int)) (by omega)
      exact ⟨(g.fmod (R.length : Int)).toNat, by omega, by omega⟩
    rw [show ((fun (i j : Int) => V.int (i.fmod j)) g (R.length : Int)) = V.int (p : Int) from congrArg V.int hp]
    have hc : R[p]? = some R[p] := List.getElem?_eq_getElem hpl
    have hdr : R.drop p = R[p] :: R.drop (p + 1) := (List.getElem_cons_drop hpl).symm
    generalize R[p] = c at hc hdr
    have hcm := hmem c (List.mem_of_getElem? hc)
    -- the letter
    refine ⟨_, rfl, _, rfl, _, rfl, b1, f1, r1, n, p, c, rfl, k1.same s06, by rw [hR]; exact hc, fun H7 s7 => ?_⟩
    have s07 := s06.trans s7
    refine ⟨_, rfl, _, .ty "str", .type "str", .type "str", true, rfl, .ty "str", .base (.str _), kit_ty (by decide +kernel), true, rfl, iteF ?_⟩
    refine ⟨_, rfl, _, rfl, _, rfl, b2, f2, r2, n, p, c, rfl, k2.same s07, by rw [hrow]; exact hc, fun H8 s8 => ?_⟩
    have s08 := s07.trans s8
    refine ⟨_, rfl, rfl, ?_⟩
    refine ⟨_, rfl, ?_⟩
    rw [decide_eq_true rfl]
    refine iteF ?_
    -- the stretch
    refine ⟨_, rfl, _, rfl, _, _, rfl, rfl, _, _, rfl, ?_⟩
    obtain ⟨k, hk', hkl, hk1, hk100⟩ : ∃ k : Nat, (if (R.length : Int) - (p : Int) < 100 then (R.length : Int) - (p : Int) else 100) = (k : Int) ∧ p + k ≤ R.length ∧ 1 ≤ k ∧ k ≤ 100 := by
      by_cases h : (R.length : Int) - (p : Int) < 100
      · rw [if_pos h]
        exact ⟨R.length - p, by omega, by omega, by omega, by omega⟩
      · rw [if_neg h]
        exact ⟨100, rfl, by omega, by omega, by omega⟩
    rw [hk']
    have htl : ((R.drop p).take k).length = k := by
      rw [List.length_take, List.length_drop]
      omega
    refine ⟨_, rfl, _, rfl, _, rfl, _, rfl, b1, f1, r1, n, p, k, rfl, k1.same s08, by rw [hR]; exact hkl, hk100, fun H9 s9 => ?_⟩
    have s09 := s08.trans s9
    rw [hR]
    refine ⟨_, rfl, _, .ty "str", .type "str", .type "str", true, rfl, .ty "str", .base (.str _), kit_ty (by decide +kernel), true, rfl, iteF ?_⟩
    refine ⟨_, rfl, _, k, rfl, ⟨small (by rw [S_len, htl]; omega), by rw [S_len, htl]⟩, _, rfl, rfl, ?_⟩
    refine ⟨_, rfl, ?_⟩
    rw [decide_eq_true rfl]
    refine iteF ?_
    have h0 : ((R.drop p).take k)[0]? = some c := by
      rw [hdr]
      obtain ⟨k', rfl⟩ : ∃ k', k = k' + 1 := ⟨k - 1, by omega⟩
      rfl
    refine ⟨_, rfl, _, _, c, rfl, rfl, small (by rw [S_len, htl]; omega), S_atI (i := 0) rfl h0, _, rfl, rfl, ?_⟩
    refine ⟨_, rfl, ?_⟩
    rw [decide_eq_true rfl]
    refine iteF ?_
    refine ⟨_, rfl, _, rfl, _, rfl, _, rfl, b2, f2, r2, n, p, k, rfl, k2.same s09, by rw [hrow]; exact hkl, hk100, fun H10 s10 => ?_⟩
    have s010 := s09.trans s10
    rw [hrow]
    refine ⟨_, rfl, rfl, ?_⟩
    refine ⟨_, rfl, ?_⟩
    rw [decide_eq_true rfl]
    refine iteF ?_
    -- how many ahead
    refine ⟨_, rfl, _, rfl, _, rfl, _, rfl, b1, f1, r1, n, p, c, rfl, k1.same s010, by rw [hR]; exact hpl, hcm, fun H11 s11 => ?_⟩
    have s011 := s010.trans s11
    rw [hR]
    refine ⟨_, rfl, _, rfl, _, rfl, _, rfl, b2, f2, r2, n, p, c, rfl, k2.same s011, by rw [hrow]; exact hpl, by rw [hk]; exact hcm, fun H12 s12 => ?_⟩
    rw [hrow]
    refine ⟨rfl, ?_⟩
    rw [decide_eq_true rfl]
    exact q H12 (s011.trans s12)
/-! ### _law_parted -/
def spParted (K : PySem.W.Frag) : Sp := fun vs H Q _ => ∃ (b1 b2 : V) (f1 f2 : Tx) (r1 r2 : Rls) (n : Nat), vs = [b1, b2, .int (n : Int)] ∧ Asked K H b1 f1 r1 n ∧ Asked K H b2 f2 r2 n ∧ EarlyOk r1 r2 f1 f2 n ∧ ∀ H', Same H H' → Q (.bl true) H'
theorem c_law_parted (T : Facts K mg) : C8.Cal P w K mg base 5 "_law_parted" (spParted K) [] := by
  refine cal T.d_law_parted sc_law_parted (fun vs H Q E h => ?_) (fun f cdv A outer s H vs Q E hr h => ?_)
  · obtain ⟨b1, b2, f1, f2, r1, r2, n, rfl, _⟩ := h
    rfl
  · obtain ⟨b1, b2, f1, f2, r1, r2, n, rfl, k1, k2, ⟨hn, hlen, hne⟩, q⟩ := h
    refine ⟨_, (pss_cons (ps_if (PW.pt (pw_or (pt_not (pt_val (C8.pe_c (c_law_whole T) hr (by decide) rfl (pa_cons (pv 2) pa_nil)))) (pw_or1 (pt_cmpR op_lt (pv 2) pe_int (nomark _)))))
      (pss_one (ps_ret pe_bl))
      pss_nil)
      (pss_cons (ps_if (pt_cmpR op_gt (pv 2) pe_int (nomark _))
      (pss_one (ps_ret pe_bl))
      pss_nil)
      (pss_cons (ps_for PassesOwn.never rfl (pi_range1 rfl T.b_range (pa_cons (pe_op op_add (pv 2) pe_int) pa_nil)) (pg_name (i := 3) sc_law_parted.nd rfl (Or.inl rfl))
      (pss_one (ps_if (PW.pt (pw_or (pt_cmpR op_gt (C8.pe_c (c_length T) hr (by decide) rfl (pa_cons (pv 0) (pa_cons (pv 3) pa_nil))) pe_int (nomark _)) (pw_or1 (pt_cmpR op_gt (C8.pe_c (c_length T) hr (by decide) rfl (pa_cons (pv 1) (pa_cons (pv 3) pa_nil))) pe_int (nomark _)))))
        (pss_one (ps_ret pe_bl))
        pss_nil)))
      (pss_one (ps_ret (pe_cmpR op_ne (C8.pe_c (c_row T) hr (by decide) rfl (pa_cons (pv 0) (pa_cons (pv 2) pa_nil))) (C8.pe_c (c_row T) hr (by decide) rfl (pa_cons (pv 1) (pa_cons (pv 2) pa_nil))) (nomark _))))))), ?_⟩
    refine ⟨_, rfl, _, rfl, true, rfl, iteF ?_⟩
    refine ⟨_, rfl, _, _, rfl, rfl, _, rfl, ?_⟩
    rw [decide_eq_false (by omega)]
    refine iteF ?_
    refine ⟨_, rfl, _, _, rfl, rfl, _, rfl, ?_⟩
    rw [decide_eq_false (by omega)]
    refine iteF ?_
    refine ⟨_, rfl, _, _, rfl, rfl, _, rfl, by omega, by omega, ?_⟩
    refine for_it walk_range (fun i σ H' => ∃ y3, σ = [some b1, some b2, some (.int (n : Int)), y3] ∧ Same H H')
      ⟨none, rfl, .refl _⟩ (fun _ _ _ _ _ => trivial) (fun i x σ H' H'' hlt pp y => ?_) (fun σ H' pp => ?_)
    · obtain ⟨y3, rfl, sm⟩ := pp
      obtain ⟨rfl, ex⟩ := y
      have ex2 : x = .int (i : Int) := ex.trans (congrArg V.int (Int.zero_add _))
      subst ex2
      have hin : i ≤ n := by omega
      have hl := hlen i hin
      refine ⟨_, rfl, _, rfl, b1, f1, r1, i, rfl, ⟨(k1.same sm).book, k1.ok, by omega, k1.len, k1.mem⟩, fun H1 s1 => ⟨_, _, rfl, rfl, _, rfl, ?_⟩⟩
      rw [decide_eq_false (by omega)]
      refine iteF ?_
      refine ⟨_, rfl, _, rfl, b2, f2, r2, i, rfl, ⟨(k2.same (sm.trans s1)).book, k2.ok, by omega, k2.len, k2.mem⟩, fun H2 s2 => ⟨_, _, rfl, rfl, _, rfl, ?_⟩⟩
      rw [decide_eq_false (by omega)]
      exact iteF ⟨_, rfl, (sm.trans s1).trans s2⟩
    · obtain ⟨y3, rfl, sm⟩ := pp
      refine ⟨_, rfl, _, rfl, b1, f1, r1, n, rfl, (k1.same sm).book, k1.ok, by omega, k1.mem, fun i hi => by have := (hlen i hi).1; omega, fun H1 s1 => ?_⟩
      refine ⟨_, rfl, _, rfl, b2, f2, r2, n, rfl, (k2.same (sm.trans s1)).book, k2.ok, by omega, k2.mem, fun i hi => by have := (hlen i hi).2; omega, fun H2 s2 => ⟨rfl, ?_⟩⟩
      rw [decide_eq_false (fun h => hne (tv_inj h))]
      exact q H2 ((sm.trans s1).trans s2)
end
end Lg
/-! the law's drawing walked: _law_pen, _law_take, _law_signs, _law_text, _law_cutting -/
namespace Lg
open PySem PySem.Spec PyProof.Rows L2
/-! ### list(text) -/
theorem paired_get {α β : Type} {F : α → β → Prop} : ∀ {xs : List α} {ys : List β}, xs.length = ys.length → (∀ (i : Nat) (x : α) (y : β), xs[i]? = some x → ys[i]? = some y → F x y) → Paired F xs ys
  | [], [], _, _ => .nil
  | [], _ :: _, h, _ => by simp at h
  | _ :: _, [], h, _ => by simp at h
  | x :: xs, y :: ys, h, hf => .cons (hf 0 x y rfl rfl) (paired_get (by simpa using h) fun i a b h1 h2 => hf (i + 1) a b h1 h2)
def rListTxt : List V → Hp → VK → Prop := fun xs H Q => ∃ t : Tx, xs = [tv t] ∧ t.length ≤ 1000 ∧ ∀ l, H l = none → Q (.ref l) (upd H l (.lst (t.map fun c => tv [c])))
theorem call_list_txt {X : Cx} (hc : X.calm = true) : CallR X (.type "list") rListTxt := by
  intro pins s σ H xs us Q I r h
  obtain ⟨t, rfl, hl, q⟩ := h
  obtain ⟨u, rfl, rx⟩ := vals1 r
  obtain ⟨tk, rfl⟩ := rx
  refine call_list_str (I.ok.hd hc) (S t) tk (fun h' tk' acc' c' kp e hit => ?_) (small (by rw [S_size]; omega))
  obtain ⟨hsz, hit⟩ := hit
  rw [S_size] at hsz
  refine ⟨.ref s.heap.objs.size, upd H s.heap.objs.size (.lst (t.map fun c => tv [c])), I.laid (t' := tk') kp (Nat.le_refl _) ⟨small (by rw [List.length_map]; omega), acc'.toList, c', ?_, by simpa using e⟩, rfl, q _ (I.hok.fresh (Nat.le_refl _))⟩
  refine paired_get (by rw [List.length_map, Array.length_toList]; exact hsz.symm) fun i x y h1 h2 => ?_
  rw [List.getElem?_map, Option.map_eq_some_iff] at h1
  obtain ⟨c, hc', rfl⟩ := h1
  rw [Array.getElem?_toList] at h2
  obtain ⟨c2, u, hc2, rfl⟩ := hit i y h2
  rw [S_get, hc'] at hc2
  have : c = c2 := Option.some.inj hc2
  subst this
  exact ⟨u, rfl⟩
/-! ### heaps but the pen -/
def SameB (p : Addr) (H H' : Hp) : Prop := ∀ b o, b ≠ p → H b = some o → H' b = some o
theorem SameB.refl (p : Addr) (H : Hp) : SameB p H H := fun _ _ _ h => h
theorem SameB.trans {p : Addr} {H H1 H2 : Hp} (a : SameB p H H1) (b : SameB p H1 H2) : SameB p H H2 := fun x o n h => b x o n (a x o n h)
theorem sameB_of {p : Addr} {H H' : Hp} (a : Same H H') : SameB p H H' := fun x o _ h => a x o h
theorem sameB_upd {p : Addr} {H : Hp} {o : HO} : SameB p H (upd H p o) := fun x u n h => by
  rw [upd_ne n]
  exact h
theorem sameB_mut {p q : Addr} {H H' : Hp} {o : HO} (e : SameB p H H') (h : H q = none) : SameB p H (upd H' q o) := fun a u n ha => by
  rw [upd_ne (ne_of_none ha h)]
  exact e a u n ha
theorem SameB.seq {K : PySem.W.Frag} {p : Addr} {H H' : Hp} (e : SameB p H H') {a : Addr} {xs : List V} (n : a ≠ p) (h : SqL K H a xs) : SqL K H' a xs := by
  rcases h with (h | ⟨o, h⟩) | h
  · exact .inl (.inl (e _ _ n h))
  · exact .inl (.inr ⟨o, e _ _ n h⟩)
  · exact .inr h
theorem SameB.tup {K : PySem.W.Frag} {p : Addr} {H H' : Hp} (e : SameB p H H') {a : Addr} {xs : List V} (n : a ≠ p) (h : SqT K H a xs) : SqT K H' a xs := by
  rcases h with (h | ⟨o, h⟩) | h
  · exact .inl (.inl (e _ _ n h))
  · exact .inl (.inr ⟨o, e _ _ n h⟩)
  · exact .inr h
/-- the pen: at most m draws made -/
def PenAt (H : Hp) (p : Addr) (m : Nat) : Prop := ∃ a b c : Int, H p = some (.lst [.int a, .int b, .int c]) ∧ 0 ≤ b ∧ b ≤ (m : Int) ∧ 0 ≤ c ∧ c < 2147483647
theorem PenAt.same {H H' : Hp} {p : Addr} {m : Nat} (h : PenAt H p m) (e : Same H H') : PenAt H' p m := by
  obtain ⟨a, b, c, h1, h2⟩ := h
  exact ⟨a, b, c, e _ _ h1, h2⟩
theorem PenAt.mono {H : Hp} {p : Addr} {m m' : Nat} (h : PenAt H p m) (e : m ≤ m') : PenAt H p m' := by
  obtain ⟨a, b, c, h1, h2, h3, h4⟩ := h
  exact ⟨a, b, c, h1, h2, by omega, h4⟩
theorem PenAt.ne {H : Hp} {p q : Addr} {m : Nat} (h : PenAt H p m) (hq : H q = none) : q ≠ p := fun z => by
  obtain ⟨a, b, c, h1, _⟩ := h
  subst z
  rw [hq] at h1
  cases h1
theorem PenAt.upd {H : Hp} {p q : Addr} {m : Nat} {o : HO} (h : PenAt H p m) (n : q ≠ p) : PenAt (upd H q o) p m := by
  obtain ⟨a, b, c, h1, h2⟩ := h
  exact ⟨a, b, c, by rw [upd_ne n.symm]; exact h1, h2⟩
section
variable {P : Program} {w : World} {K : PySem.W.Frag} {mg : Str → Option Value} {base : Heap}
theorem fmod_rng (a : Int) {b : Int} (h : 0 < b) : 0 ≤ a.fmod b ∧ a.fmod b < b := ⟨Int.fmod_nonneg_of_pos a h, Int.fmod_lt_of_pos a h⟩
/-! ### _law_pen -/
def spPen (K : PySem.W.Frag) : Sp := fun vs H Q _ => ∃ (sc : Addr) (ns : List Int) (k : Nat), vs = [.ref sc, .int (k : Int)] ∧ SqL K H sc (ns.map V.int) ∧ ns.length ≤ 63 ∧ k ≤ 1 ∧ ∀ H' p, Same H H' → H p = none → PenAt H' p 0 → Q (.ref p) H'
theorem c_law_pen (T : Facts K mg) : C8.Cal P w K mg base 1 "_law_pen" (spPen K) [] := by
  refine cal T.d_law_pen sc_law_pen (fun vs H Q E h => ?_) (fun f cdv A outer s H vs Q E hr h => ?_)
  · obtain ⟨sc, ns, k, rfl, _⟩ := h
    rfl
  · obtain ⟨sc, ns, k, rfl, hs, hl, hk, q⟩ := h
    refine ⟨_, (pss_cons (ps_set (i := 2) sc_law_pen.nd rfl (Or.inl rfl) (pe_op op_add (pe_op op_mul pe_int (pv 1)) pe_int))
      (pss_cons (ps_for PassesOwn.never rfl (pi_list (pe_slice (r := rSlL K) sl_list (pv 0) po_none (po_some pe_int))) (pg_name (i := 3) sc_law_pen.nd rfl (Or.inl rfl))
      (pss_one (ps_set (i := 2) sc_law_pen.nd rfl (Or.inl rfl) (pe_op op_modN (pe_op op_add (pe_op op_mul (pv 2) pe_int) (pv 3)) pe_int))))
      (pss_cons (ps_if (PW.pt (pw_and (pt_cmpR op_gt (pe_callB call_len_seq (by rfl) T.b_len PySem.boot_len (pa_cons (pv 0) pa_nil)) pe_int (nomark _)) (pw_and1 (pt_cmpR op_ge (pe_ix (r := rIxL K) ix_list (pv 0) (pe_op op_modN (pv 1) (pe_callB call_len_seq (by rfl) T.b_len PySem.boot_len (pa_cons (pv 0) pa_nil))) (fun _ _ => rfl)) (pe_op op_pow pe_int pe_int) (nomark _)))))
      (pss_one (ps_ret (pe_lst (pa_cons (pe_op op_sub (pe_ix (r := rIxL K) ix_list (pv 0) (pe_op op_modN (pv 1) (pe_callB call_len_seq (by rfl) T.b_len PySem.boot_len (pa_cons (pv 0) pa_nil))) (fun _ _ => rfl)) (pe_op op_pow pe_int pe_int)) (pa_cons pe_int (pa_cons (pv 2) pa_nil))))))
      pss_nil)
      (pss_one (ps_ret (pe_lst (pa_cons pe_int (pa_cons pe_int (pa_cons (pv 2) pa_nil))))))))), ?_⟩
    refine ⟨_, rfl, _, _, rfl, rfl, .inl ⟨by decide, by decide⟩, _, _, rfl, rfl, ?_⟩
    refine ⟨_, rfl, 63, rfl, sc, _, rfl, hs, fun c nc => ?_⟩
    refine ⟨c, rfl, ⟨_, lst_of upd_same⟩, ?_⟩
    have hcut : cutV (ns.map V.int) none (some 63) = ns.map V.int := by
      rw [show (some (63 : Int)) = some ((63 : Nat) : Int) from rfl, cutV_to, List.take_of_length_le (by rw [List.length_map]; exact hl)]
    rw [hcut]
    have s1 : Same H (upd H c (.lst (ns.map V.int))) := same_new nc
    refine for_it (walk_list (xs := ns.map V.int)) (fun i σ H' => ∃ (x : Int) (y3 : Option V), σ = [some (.ref sc), some (.int (k : Int)), some (.int x), y3] ∧ H' = upd H c (.lst (ns.map V.int)) ∧ 0 ≤ x ∧ x < 2147483647)
      ⟨_, none, rfl, rfl, by omega, by omega⟩ (fun i σ H' _ pp => ?_) (fun i x σ H' H'' hlt pp y => ?_) (fun σ H' pp => ?_)
    · obtain ⟨_, _, _, rfl, _⟩ := pp
      exact lst_of upd_same
    · obtain ⟨z, y3, rfl, rfl, h0, h1⟩ := pp
      obtain ⟨rfl, hx⟩ := y
      rw [List.getElem?_map, Option.map_eq_some_iff] at hx
      obtain ⟨n, hn, rfl⟩ := hx
      refine ⟨_, rfl, _, _, rfl, rfl, .inr ⟨by decide, by decide⟩, _, rfl, _, _, rfl, rfl, _, _, rfl, rfl, by show (2147483647 : Int) ≠ 0; decide, ?_⟩
      have := fmod_rng (z * 69621 + n) (b := 2147483647) (by decide)
      exact ⟨_, _, rfl, rfl, this.1, this.2⟩
    · obtain ⟨z, y3, rfl, rfl, h0, h1⟩ := pp
      have hs1 := s1.seq hs
      have fin : ∀ a : Int, ∀ p, (upd H c (.lst (ns.map V.int))) p = none → Q (.ref p) (upd (upd H c (.lst (ns.map V.int))) p (.lst [.int a, .int 0, .int z])) := fun a p np => q _ p (s1.trans (same_new np)) (s1.free np) ⟨a, 0, z, upd_same, by decide, by decide, h0, h1⟩
      refine ⟨_, rfl, sc, _, rfl, .inl hs1, _, _, rfl, rfl, _, rfl, ite2 (fun e => ?_) (fun e => ?_)⟩
      · have hpos : 0 < ns.length := by
          have := of_decide_eq_true e
          rw [List.length_map] at this
          omega
        have hlen : ((ns.map V.int).length : Int) = (ns.length : Int) := by rw [List.length_map]
        obtain ⟨h2, h3⟩ := fmod_rng (k : Int) (b := ((ns.map V.int).length : Int)) (by omega)
        obtain ⟨j, hj⟩ : ∃ j : Nat, (k : Int).fmod ((ns.map V.int).length : Int) = (j : Int) := ⟨((k : Int).fmod ((ns.map V.int).length : Int)).toNat, by omega⟩
        rw [hj] at h3
        have hnj : ns[j]? = some (ns[j]'(by omega)) := List.getElem?_eq_getElem (by omega)
        generalize (ns[j]'(by omega)) = v at hnj
        have hat : atI (ns.map V.int) ((k : Int).fmod ((ns.map V.int).length : Int)) = some (.int v) := by
          refine at_of hj ?_
          rw [List.getElem?_map, hnj]
          rfl
        refine ⟨_, rfl, _, rfl, _, rfl, sc, _, rfl, .inl hs1, _, _, rfl, rfl, by omega, sc, _, _, _, rfl, rfl, hs1, hat, 10, 18, rfl, rfl, ⟨by decide, by decide, by decide⟩, _, _, rfl, rfl, _, rfl, ite2 (fun e2 => ?_) (fun e2 => ?_)⟩
        · refine ⟨_, rfl, _, rfl, _, rfl, sc, _, rfl, .inl hs1, _, _, rfl, rfl, by omega, sc, _, _, _, rfl, rfl, hs1, hat, 10, 18, rfl, rfl, ⟨by decide, by decide, by decide⟩, _, _, rfl, rfl, _, rfl, by show 3 ≤ sizeLine; decide, fun p np => fin _ p np⟩
        · exact ⟨_, rfl, by show 3 ≤ sizeLine; decide, fun p np => fin 0 p np⟩
      · exact ⟨_, rfl, by show 3 ≤ sizeLine; decide, fun p np => fin 0 p np⟩
/-! ### _law_take -/
def spTake : Sp := fun vs H Q _ => ∃ (p : Addr) (z : Int) (m : Nat), vs = [.ref p, .int z] ∧ PenAt H p m ∧ m ≤ 1000000 ∧ 0 < z ∧ z < 4294967296 ∧ ∀ H' v, SameB p H H' → PenAt H' p (m + 1) → 0 ≤ v → v < z → Q (.int v) H'
theorem c_law_take (T : Facts K mg) : C8.Cal P w K mg base 1 "_law_take" spTake [] := by
  refine cal T.d_law_take sc_law_take (fun vs H Q E h => ?_) (fun f cdv A outer s H vs Q E hr h => ?_)
  · obtain ⟨p, z, m, rfl, _⟩ := h
    rfl
  · obtain ⟨p, z, m, rfl, ⟨a, b, c, hp, hb0, hbm, hc0, hc1⟩, hm, hz0, hz1, q⟩ := h
    refine ⟨_, (pss_cons (ps_if (pt_cmpR op_gt (pe_ix (r := rIxL K) ix_list (pv 0) pe_int (fun _ _ => rfl)) pe_int (nomark _))
      (pss_cons (ps_set (i := 2) sc_law_take.nd rfl (Or.inl rfl) (pe_op op_modN (pe_ix (r := rIxL K) ix_list (pv 0) pe_int (fun _ _ => rfl)) (pv 1)))
        (pss_cons (ps_asg (pe_op op_fdivW (pe_ix (r := rIxL K) ix_list (pv 0) pe_int (fun _ _ => rfl)) (pv 1)) (pg_sub (pv 0) pe_int set_list))
        (pss_one (ps_ret (pv 2)))))
      pss_nil)
      (pss_cons (ps_asg (pe_op op_add (pe_ix (r := rIxL K) ix_list (pv 0) pe_int (fun _ _ => rfl)) pe_int) (pg_sub (pv 0) pe_int set_list))
      (pss_cons (ps_set (i := 3) sc_law_take.nd rfl (Or.inl rfl) (pe_op op_modN (pe_op op_pow (pe_op op_add (pe_ix (r := rIxL K) ix_list (pv 0) pe_int (fun _ _ => rfl)) (pe_op op_mul pe_int (pe_ix (r := rIxL K) ix_list (pv 0) pe_int (fun _ _ => rfl)))) pe_int) pe_int))
      (pss_cons (ps_set (i := 3) sc_law_take.nd rfl (Or.inl rfl) (pe_op op_modN (pe_op op_pow (pe_op op_add (pv 3) (pe_op op_mul pe_int (pe_ix (r := rIxL K) ix_list (pv 0) pe_int (fun _ _ => rfl)))) pe_int) pe_int))
      (pss_one (ps_ret (pe_op op_modN (pe_op op_fdivW (pv 3) pe_int) (pv 1)))))))), ?_⟩
    have at2 : ∀ {x y v : V}, atI [x, y, v] 2 = some v := fun {x y v} => atI_nat (j := 2) rfl
    have hzb : z.natAbs < 2 ^ 32 := by omega
    refine ⟨_, rfl, p, _, 0, _, rfl, rfl, lst_of hp, at0, _, _, rfl, rfl, _, rfl, ite2 (fun e => ?_) (fun e => ?_)⟩
    · obtain ⟨h2, h3⟩ := fmod_rng a hz0
      refine ⟨_, rfl, p, _, 0, _, rfl, rfl, lst_of hp, at0, _, rfl, _, _, rfl, rfl, by omega, ?_⟩
      refine ⟨_, rfl, p, _, 0, _, rfl, rfl, lst_of hp, at0, _, rfl, _, _, rfl, rfl, wide_div hz0 hzb (by decide) (by decide), ?_⟩
      refine ⟨_, rfl, p, _, 0, 0, rfl, rfl, hp, rfl, ?_⟩
      exact ⟨_, rfl, q _ _ sameB_upd ⟨_, b, c, upd_same, hb0, by omega, hc0, hc1⟩ h2 h3⟩
    · refine ⟨_, rfl, p, _, 1, _, rfl, rfl, lst_of hp, at1, _, _, rfl, rfl, ?_⟩
      refine ⟨_, rfl, p, _, 1, 1, rfl, rfl, hp, rfl, ?_⟩
      have hp2 : (upd H p (.lst ([V.int a, .int b, .int c].set 1 (.int (b + 1))))) p = some (.lst [.int a, .int (b + 1), .int c]) := upd_same
      have sb : SameB p H (upd H p (.lst ([V.int a, .int b, .int c].set 1 (.int (b + 1))))) := sameB_upd
      generalize upd H p (.lst ([V.int a, .int b, .int c].set 1 (.int (b + 1)))) = H2 at hp2 sb
      refine ⟨_, rfl, p, _, 2, _, rfl, rfl, lst_of hp2, at2, _, rfl, p, _, 1, _, rfl, rfl, lst_of hp2, at1, _, _, rfl, rfl, .inl ⟨by decide, by decide⟩, _, _, rfl, rfl, _, 5, rfl, rfl, ⟨by decide, by decide, by omega⟩, _, _, rfl, rfl, by show (2147483647 : Int) ≠ 0; decide, ?_⟩
      obtain ⟨h2, h3⟩ := fmod_rng ((c + 7919 * (b + 1)) ^ (5 : Int).toNat) (b := 2147483647) (by decide)
      obtain ⟨x1, hx1⟩ : ∃ x : Int, ((c + 7919 * (b + 1)) ^ (5 : Int).toNat).fmod 2147483647 = x := ⟨_, rfl⟩
      rw [hx1] at h2 h3
      refine ⟨_, rfl, _, rfl, p, _, 1, _, rfl, rfl, lst_of hp2, at1, _, _, rfl, rfl, .inl ⟨by decide, by decide⟩, _, _, congrArg V.int hx1, rfl, _, 5, rfl, rfl, ⟨by decide, by decide, by omega⟩, _, _, rfl, rfl, by show (2147483629 : Int) ≠ 0; decide, ?_⟩
      obtain ⟨x2, hx2⟩ : ∃ x : Int, ((x1 + 104729 * (b + 1)) ^ (5 : Int).toNat).fmod 2147483629 = x := ⟨_, rfl⟩
      obtain ⟨h4, h5⟩ := fmod_rng (x2 / 11) hz0
      exact ⟨_, rfl, _, _, congrArg V.int hx2, rfl, wide_div (b := 4) (by decide) (by decide) (by decide) (by decide), _, rfl, _, _, rfl, rfl, by show z ≠ 0; omega, q H2 _ sb ⟨a, b + 1, c, hp2, by omega, by omega, hc0, hc1⟩ h4 h5⟩
end
end Lg
/-! the law's drawing walked: _law_signs, _law_text, _law_cutting -/
namespace Lg
open PySem PySem.Spec PyProof.Rows L2
abbrev lettV (ls : List Nat) : List V := ls.map fun c => tv [c]
section
variable {J : It} {n : Nat} {G : Hp → Prop} {Y : Nat → Hp → V → Hp → Prop}
theorem lcn_it (w : Walk J n G Y) {te : TE} {vs : List Nat} {j : Nat} {σ : L2.St} {H1 : Hp} {D : Addr} {Qd : Hp → Prop} (Pv : Nat → Hp → Prop) (h0 : Pv 0 (upd H1 D (.lst []))) (hG : ∀ i H, i ≤ n → Pv i H → G H) (hw : ∀ x, wipe ((wipe σ vs).set j (some x)) vs = wipe σ vs)
    (hs : ∀ i x H H', i < n → Pv i H → Y i H x H' → te ((wipe σ vs).set j (some x)) H' fun y H4 => ∃ acc, H4 D = some (.lst acc) ∧ acc.length < sizeLine ∧ Pv (i + 1) (upd H4 D (.lst (acc ++ [y])))) (hd : ∀ H, Pv n H → Qd H) :
    ∃ W : Nat → Nat → Hp → Prop, (∃ m, W 0 m (upd H1 D (.lst []))) ∧ ∀ i m H, W i m H →
      (J.stop i H ∧ Qd H) ∨ (J.go i H ∧ ∃ Nx : Hp → Prop, (∀ H', Nx H' → ∃ m', m' < m ∧ W (i + 1) m' H') ∧ ∀ x H', J.yld i H x H' → gName j x (wipe σ vs) H' fun σ2 H2 => wipe σ2 vs = wipe σ vs ∧ tYes σ2 H2 fun b H3 =>
        if b = true then te σ2 H3 fun y H4 => ∃ acc, H4 D = some (.lst acc) ∧ acc.length < sizeLine ∧ Nx (upd H4 D (.lst (acc ++ [y]))) else Nx H3) :=
  lc_it w Pv h0 hG (fun i x H H' hi p y => ⟨hw x, iteT (B := Pv (i + 1) H') (hs i x H H' hi p y)⟩) hd
end
theorem join_ok {K : PySem.W.Frag} {H : Hp} {D : Addr} {ts : List Tx} {Q : VK} (h : SqL K H D (txV ts)) (hl : ts.flatten.length ≤ 16777216) (q : Q (tv ts.flatten) H) :
    ∃ (a : Str) (q : Addr) (xs : List Str), V.str (S []) = .str a ∧ [V.ref D] = [V.ref q] ∧ (SqL K H q (xs.map V.str) ∨ SqT K H q (xs.map V.str)) ∧ (xs.map (·.length)).sum + xs.length * a.length ≤ 16777216 ∧ Q (.str (Txt.join a xs)) H := by
  refine ⟨S [], D, ts.map S, rfl, rfl, .inl (by rw [List.map_map]; exact h), ?_, by rw [join_S]; exact q⟩
  have e : ((ts.map S).map (·.length)).sum = ts.flatten.length := by
    rw [List.map_map, List.length_flatten]
    congr 1
  rw [e]
  exact hl
section
variable {P : Program} {w : World} {K : PySem.W.Frag} {mg : Str → Option Value} {base : Heap}
theorem sIdx {n j : Nat} {z : Int} (e : z = (j : Int)) (h : j < n) : seqIndex? z n = some j := by
  subst e
  unfold seqIndex?
  simp
  omega
theorem perm_erase : ∀ {l : List Nat} {j c : Nat}, l[j]? = some c → l.Perm (c :: l.eraseIdx j)
  | [], _, _, h => by simp at h
  | x :: l, 0, c, h => by
    have : x = c := Option.some.inj h
    subst this
    exact .refl _
  | x :: l, j + 1, c, h => (List.Perm.cons x (perm_erase (l := l) (j := j) h)).trans (List.Perm.swap c x _)
theorem lettV_get {ls : List Nat} {j c : Nat} (h : ls[j]? = some c) : (lettV ls)[j]? = some (tv [c]) := by
  rw [List.getElem?_map, h]
  rfl
theorem lettV_erase : ∀ (ls : List Nat) (j : Nat), (lettV ls).eraseIdx j = lettV (ls.eraseIdx j)
  | [], _ => rfl
  | c :: ls, 0 => rfl
  | c :: ls, j + 1 => congrArg (tv [c] :: ·) (lettV_erase ls j)
def az : List Nat := (List.range 26).map (· + 97)
/-! ### _law_signs -/
def spSigns : Sp := fun vs H Q _ => ∃ (p : Addr) (m : Nat), vs = [.ref p, .int 8] ∧ PenAt H p m ∧ m ≤ 10000 ∧ ∀ H' a ls, SameB p H H' → PenAt H' p (m + 8) → a ≠ p → H a = none → H' a = some (.lst (lettV ls)) → ls.length = 8 → ls.Nodup → (∀ c ∈ ls, 97 ≤ c ∧ c ≤ 122) → Q (.ref a) H'
theorem c_law_signs (T : Facts K mg) : C8.Cal P w K mg base 2 "_law_signs" spSigns [] := by
  refine cal T.d_law_signs sc_law_signs (fun vs H Q E h => ?_) (fun f cdv A outer s H vs Q E hr h => ?_)
  · obtain ⟨p, m, rfl, _⟩ := h
    rfl
  · obtain ⟨p, m, rfl, hp, hm, q⟩ := h
    refine ⟨_, (pss_cons (ps_set (i := 2) sc_law_signs.nd rfl (Or.inr rfl) (pe_callTy (call_list_txt rfl) (by rfl) T.b_list (by decide +kernel) (pa_cons pe_str pa_nil)))
      (pss_one (ps_ret (pe_lc (own := [("_law_k", 3)]) (g := gName 3) (tt := tYes) rfl sc_law_signs.nd (pi_range1 rfl T.b_range (pa_cons (pv 1) pa_nil)) (blkOk_by (N := ["_law_pen_here", "_law_many", "_law_rest", "_law_k"]) (sc := defScope s_law_signs) (by decide +kernel)) (fun _ _ _ _ _ => pg_name (i := 3) sc_law_signs.nd rfl (Or.inl rfl)) (fun _ _ _ _ _ => pts_nil) (fun _ _ _ _ _ => (pe_bmB (K := K) (pe_bm PySem.F.plainAttrs_list PySem.F.slot_list_pop PySem.F.type_list_pop mt_popAt (pv 2) (pa_cons (C8.pe_c (c_law_take T) hr (by decide) rfl (pa_cons (pv 0) (pa_cons (pe_callB (r := Evl.rLenS K) call_len_seq (by rfl) T.b_len PySem.boot_len (pa_cons (pv 2) pa_nil)) pa_nil))) pa_nil)) rfl)))))), ?_⟩
    refine ⟨az, rfl, by decide, fun r nr => ?_⟩
    have rp : r ≠ p := hp.ne nr
    refine ⟨_, rfl, _, rfl, by decide, by decide, fun D nD => ?_⟩
    have Dp : D ≠ p := (hp.upd rp).ne nD
    have Dr : D ≠ r := fun z => by subst z; rw [upd_same] at nD; cases nD
    have s1 : Same H (upd (upd H r (.lst (az.map fun c => tv [c]))) D (.lst [])) := (same_new nr).trans (same_new nD)
    have nD0 : H D = none := by rw [upd_ne Dr] at nD; exact nD
    refine lcn_it walk_range (fun i H' => ∃ rest ls, SameB p H H' ∧ PenAt H' p (m + i) ∧ H' r = some (.lst (lettV rest)) ∧ H' D = some (.lst (lettV ls)) ∧ ls.length = i ∧ (ls ++ rest).Perm az)
      ⟨az, [], sameB_of s1, ((hp.upd rp).upd Dp), by rw [upd_ne Dr.symm, upd_same], upd_same, rfl, .refl _⟩ (fun _ _ _ _ => trivial) (fun _ => rfl) (fun i x H' H'' hlt pp y => ?_) (fun H' pp => ?_)
    · obtain ⟨rest, ls, sb, pe, hr', hD, hl, pm⟩ := pp
      obtain ⟨rfl, ex⟩ := y
      have hlen : ls.length + rest.length = 26 := by
        have := pm.length_eq
        rw [List.length_append] at this
        exact this
      have hlt8 : i < 8 := hlt
      refine ⟨_, rfl, .inl ⟨rfl, _, lst_of hr'⟩, _, rfl, _, rfl, r, _, rfl, .inl (lst_of hr'), p, _, m + i, rfl, pe, by omega, by rw [List.length_map]; omega, by rw [List.length_map]; omega, fun H3 v sb3 pe3 h0 h1 => ?_⟩
      rw [List.length_map] at h1
      obtain ⟨j, rfl⟩ : ∃ j : Nat, v = (j : Int) := ⟨v.toNat, by omega⟩
      have hj : j < rest.length := by omega
      have hc : rest[j]? = some rest[j] := List.getElem?_eq_getElem hj
      generalize rest[j] = c at hc
      have hr3 := sb3 r _ rp hr'
      have hD3 := sb3 D _ Dp hD
      refine ⟨r, _, (j : Int), j, _, rfl, rfl, hr3, by omega, by omega, sIdx rfl (by rw [List.length_map]; exact hj), lettV_get hc, ?_⟩
      refine ⟨lettV ls, by rw [upd_ne Dr]; exact hD3, small' (by rw [List.length_map]; omega), rest.eraseIdx j, ls ++ [c], ?_, (pe3.upd rp).upd Dp, ?_, ?_, ?_, ?_⟩
      · exact sameB_mut (sameB_mut (sb.trans sb3) nr) nD0
      · rw [upd_ne Dr.symm, upd_same, lettV_erase]
      · rw [upd_same, lettV, lettV, List.map_append]
        rfl
      · rw [List.length_append, hl]
        rfl
      · refine List.Perm.trans ?_ pm
        rw [List.append_assoc]
        exact List.Perm.append_left ls (perm_erase hc).symm
    · obtain ⟨rest, ls, sb, pe, hr', hD, hl, pm⟩ := pp
      have nd : (ls ++ rest).Nodup := pm.symm.nodup (by decide)
      refine q H' D ls sb pe Dp nD0 hD hl (List.nodup_append.mp nd).1 fun c hc => ?_
      have := pm.mem_iff.mp (List.mem_append_left rest hc)
      have h2 : ∀ c ∈ az, 97 ≤ c ∧ c ≤ 122 := by decide
      exact h2 c this
/-! ### _law_text -/
def spText (K : PySem.W.Frag) : Sp := fun vs H Q _ => ∃ (p g : Addr) (gs : List Tx) (m k : Nat), vs = [.ref p, .ref g, .int (k : Int)] ∧ PenAt H p m ∧ m ≤ 10000 ∧ g ≠ p ∧ SqL K H g (txV gs) ∧ 0 < gs.length ∧ gs.length ≤ 100 ∧ (∀ t ∈ gs, t.length ≤ 100) ∧ k ≤ 10 ∧
  ∀ H' (ts : List Tx), SameB p H H' → PenAt H' p (m + k) → ts.length = k → (∀ t ∈ ts, t ∈ gs) → Q (tv ts.flatten) H'
theorem flat_len {k : Nat} : ∀ {ts : List Tx}, (∀ t ∈ ts, t.length ≤ k) → ts.flatten.length ≤ ts.length * k
  | [], _ => Nat.zero_le _
  | t :: ts, h => by
    rw [List.flatten_cons, List.length_append, List.length_cons, Nat.succ_mul]
    have := flat_len (ts := ts) fun u hu => h u (List.mem_cons_of_mem _ hu)
    have := h t List.mem_cons_self
    omega
theorem c_law_text (T : Facts K mg) : C8.Cal P w K mg base 2 "_law_text" (spText K) [] := by
  refine cal T.d_law_text sc_law_text (fun vs H Q E h => ?_) (fun f cdv A outer s H vs Q E hr h => ?_)
  · obtain ⟨p, g, gs, m, k, rfl, _⟩ := h
    rfl
  · obtain ⟨p, g, gs, m, k, rfl, hp, hm, gp, hg, g0, g1, g2, hk, q⟩ := h
    refine ⟨_, (pss_one (ps_ret (pe_join pe_str (pe_lc (own := [("_law_k", 3)]) (g := gName 3) (tt := tYes) rfl sc_law_text.nd (pi_range1 rfl T.b_range (pa_cons (pe_op op_mul (pv 2) (pe_callTy call_int1 (by rfl) T.b_int (by decide +kernel) (pa_cons (pe_cmpR op_gt (pe_callB call_len_seq (by rfl) T.b_len PySem.boot_len (pa_cons (pv 1) pa_nil)) pe_int (nomark _)) pa_nil))) pa_nil)) (blkOk_by (N := ["_law_pen_here", "_law_signs_here", "_law_many", "_law_k"]) (sc := defScope s_law_text) (by decide +kernel)) (fun _ _ _ _ _ => pg_name (i := 3) sc_law_text.nd rfl (Or.inl rfl)) (fun _ _ _ _ _ => pts_nil) (fun _ _ _ _ _ => (pe_ix (r := rIxL K) ix_list (pv 1) (C8.pe_c (c_law_take T) hr (by decide) rfl (pa_cons (pv 0) (pa_cons (pe_callB (r := Evl.rLenS K) call_len_seq (by rfl) T.b_len PySem.boot_len (pa_cons (pv 1) pa_nil)) pa_nil))) (fun _ _ => rfl))))))), ?_⟩
    have hpos : decide ((0 : Int) < ((txV gs).length : Int)) = true := decide_eq_true (by rw [List.length_map]; omega)
    refine ⟨⟨_, rfl⟩, _, rfl, _, rfl, g, _, rfl, .inl hg, _, _, rfl, rfl, .inr ⟨_, rfl, ?_⟩⟩
    rw [hpos]
    refine ⟨(k : Int), 1, rfl, rfl, .inr ⟨by decide, by decide⟩, (k : Int), congrArg (fun z : Int => [V.int z]) (Int.mul_one _), by omega, by omega, fun D nD => ?_⟩
    have Dp : D ≠ p := hp.ne nD
    have hkn : (k : Int).toNat = k := Int.toNat_natCast k
    rw [hkn]
    refine lcn_it walk_range (fun i H' => ∃ ts : List Tx, SameB p H H' ∧ PenAt H' p (m + i) ∧ H' D = some (.lst (txV ts)) ∧ ts.length = i ∧ (∀ t ∈ ts, t ∈ gs))
      ⟨[], sameB_of (same_new nD), hp.upd Dp, upd_same, rfl, fun _ h => by simp at h⟩ (fun _ _ _ _ => trivial) (fun _ => rfl) (fun i x H' H'' hlt pp y => ?_) (fun H' pp => ?_)
    · obtain ⟨ts, sb, pe, hD, hl, hm2⟩ := pp
      obtain ⟨rfl, ex⟩ := y
      refine ⟨_, rfl, _, rfl, _, rfl, g, _, rfl, .inl (sb.seq gp hg), p, _, m + i, rfl, pe, by omega, by rw [List.length_map]; omega, by rw [List.length_map]; omega, fun H3 v sb3 pe3 h0 h1 => ?_⟩
      rw [List.length_map] at h1
      obtain ⟨j, rfl⟩ : ∃ j : Nat, v = (j : Int) := ⟨v.toNat, by omega⟩
      have hj : j < gs.length := by omega
      have hc : gs[j]? = some gs[j] := List.getElem?_eq_getElem hj
      generalize gs[j] = c at hc
      refine ⟨g, _, _, _, rfl, rfl, (sb.trans sb3).seq gp hg, at_of rfl (show (txV gs)[j]? = some (tv c) by rw [List.getElem?_map, hc]; rfl), ?_⟩
      refine ⟨txV ts, sb3 D _ Dp hD, small' (by rw [List.length_map]; omega), ts ++ [c], sameB_mut (sb.trans sb3) nD, pe3.upd Dp, ?_, ?_, fun t ht => ?_⟩
      · rw [upd_same, txV, txV, List.map_append]
        rfl
      · rw [List.length_append, hl]
        rfl
      · rcases List.mem_append.mp ht with h | h
        · exact hm2 t h
        · rw [List.mem_singleton.mp h]
          exact List.mem_of_getElem? hc
    · obtain ⟨ts, sb, pe, hD, hl, hm2⟩ := pp
      have := flat_len (k := 100) fun t ht => g2 t (hm2 t ht)
      exact join_ok (K := K) (lst_of hD) (by omega) (q H' ts sb pe hl hm2)
theorem none_of {p a : Addr} {H H' : Hp} (e : SameB p H H') (n : a ≠ p) (h : H' a = none) : H a = none := by
  cases ha : H a with
  | none => rfl
  | some o =>
    rw [e a o n ha] at h
    cases h
/-! ### _law_cutting -/
def spCutting : Sp := fun vs H Q _ => ∃ (p : Addr) (t : Tx) (m k : Nat), vs = [.ref p, tv t, .int (k : Int)] ∧ PenAt H p m ∧ m ≤ 10000 ∧ t.length ≤ 1000 ∧ 1 ≤ k ∧ k ≤ 10 ∧
  ∀ H' a (us : List Tx), SameB p H H' → PenAt H' p (m + k) → a ≠ p → H a = none → H' a = some (.lst (txV us)) → us.length = k → (∀ u ∈ us, u.length ≤ t.length ∧ ∀ c ∈ u, c ∈ t) → Q (.ref a) H'
theorem c_law_cutting (T : Facts K mg) : C8.Cal P w K mg base 2 "_law_cutting" spCutting [] := by
  refine cal T.d_law_cutting sc_law_cutting (fun vs H Q E h => ?_) (fun f cdv A outer s H vs Q E hr h => ?_)
  · obtain ⟨p, t, m, k, rfl, _⟩ := h
    rfl
  · obtain ⟨p, t, m, k, rfl, hp, hm, tl, k1, k2, q⟩ := h
    refine ⟨_, (pss_cons (ps_set (i := 3) sc_law_cutting.nd rfl (Or.inl rfl) (pe_callB cr_sortedI (by rfl) T.b_sorted (by decide +kernel) (pa_cons (pe_lc (own := [("_law_k", 5)]) (g := gName 5) (tt := tYes) rfl sc_law_cutting.nd (pi_range1 rfl T.b_range (pa_cons (pe_op op_sub (pv 2) pe_int) pa_nil)) (blkOk_by (N := ["_law_pen_here", "_law_signs_here", "_law_many", "_law_places", "_law_edges", "_law_k"]) (sc := defScope s_law_cutting) (by decide +kernel)) (fun _ _ _ _ _ => pg_name (i := 5) sc_law_cutting.nd rfl (Or.inl rfl)) (fun _ _ _ _ _ => pts_nil) (fun _ _ _ _ _ => (C8.pe_c (c_law_take T) hr (by decide) rfl (pa_cons (pv 0) (pa_cons (pe_op op_add (pe_callB call_len_str (by rfl) T.b_len PySem.boot_len (pa_cons (pv 1) pa_nil)) pe_int) pa_nil))))) pa_nil)))
      (pss_cons (ps_set (i := 4) sc_law_cutting.nd rfl (Or.inr rfl) (pe_op op_cat (pe_op op_cat (pe_lst (pa_cons pe_int pa_nil)) (pv 3)) (pe_lst (pa_cons (pe_callB call_len_str (by rfl) T.b_len PySem.boot_len (pa_cons (pv 1) pa_nil)) pa_nil))))
      (pss_one (ps_ret (pe_lc (own := [("_law_k", 5)]) (g := gName 5) (tt := tYes) rfl sc_law_cutting.nd (pi_range1 rfl T.b_range (pa_cons (pv 2) pa_nil)) (blkOk_by (N := ["_law_pen_here", "_law_signs_here", "_law_many", "_law_places", "_law_edges", "_law_k"]) (sc := defScope s_law_cutting) (by decide +kernel)) (fun _ _ _ _ _ => pg_name (i := 5) sc_law_cutting.nd rfl (Or.inl rfl)) (fun _ _ _ _ _ => pts_nil) (fun _ _ _ _ _ => (pe_slice (r := rSlS) sl_str (pv 1) (po_some (pe_ix (r := rIxL K) ix_list (pv 4) (pv 5) (fun _ _ => rfl))) (po_some (pe_ix (r := rIxL K) ix_list (pv 4) (pe_op op_add (pv 5) pe_int) (fun _ _ => rfl)))))))))), ?_⟩
    have hkn : ((k : Int) - 1).toNat = k - 1 := by omega
    refine ⟨_, rfl, _, _, rfl, rfl, _, rfl, by omega, by omega, fun D nD => ?_⟩
    rw [hkn]
    have Dp : D ≠ p := hp.ne nD
    refine lcn_it walk_range (fun i H' => ∃ ns : List Int, SameB p H H' ∧ PenAt H' p (m + i) ∧ H' D = some (.lst (intsV ns)) ∧ ns.length = i ∧ (∀ n ∈ ns, 0 ≤ n ∧ n ≤ (t.length : Int)))
      ⟨[], sameB_of (same_new nD), hp.upd Dp, upd_same, rfl, fun _ h => by simp at h⟩ (fun _ _ _ _ => trivial) (fun _ => rfl) (fun i x H' H'' hlt pp y => ?_) (fun H' pp => ?_)
    · obtain ⟨ns, sb, pe, hD, hl, hm2⟩ := pp
      obtain ⟨rfl, ex⟩ := y
      refine ⟨_, rfl, _, rfl, S t, rfl, small (by rw [S_len]; omega), _, _, rfl, rfl, p, _, m + i, rfl, pe, by omega, by rw [S_len]; omega, by rw [S_len]; omega, fun H3 v sb3 pe3 h0 h1 => ?_⟩
      rw [S_len] at h1
      refine ⟨intsV ns, sb3 D _ Dp hD, small' (by rw [List.length_map]; omega), ns ++ [v], sameB_mut (sb.trans sb3) nD, pe3.upd Dp, ?_, ?_, fun t ht => ?_⟩
      · rw [upd_same, intsV, intsV, List.map_append]
        rfl
      · rw [List.length_append, hl]
        rfl
      · rcases List.mem_append.mp ht with h | h
        · exact hm2 t h
        · rw [List.mem_singleton.mp h]
          omega
    · obtain ⟨ns, sb, pe, hD, hl, hm2⟩ := pp
      refine ⟨D, ns, rfl, lst_of hD, fun ns2 c1 pm _ n1 => ?_⟩
      have hl2 : ns2.length = k - 1 := pm.length_eq.trans hl
      have hes : ∃ es : List Nat, [V.int 0] ++ intsV ns2 ++ [V.int (t.length : Int)] = natsV es ∧ es.length = k + 1 ∧ ∀ e ∈ es, e ≤ t.length := by
        refine ⟨0 :: ns2.map Int.toNat ++ [t.length], ?_, ?_, fun e he => ?_⟩
        · unfold natsV intsV
          rw [List.map_append, List.map_cons, List.map_map]
          have : ns2.map V.int = ns2.map ((fun (n : Nat) => V.int (n : Int)) ∘ Int.toNat) := List.map_congr_left fun z hz => congrArg V.int (by have := (hm2 z (pm.mem_iff.mp hz)).1; omega)
          rw [← this]
          rfl
        · rw [List.length_append, List.length_cons, List.length_map]
          show ns2.length + 1 + 1 = _
          omega
        · rcases List.mem_append.mp he with h | h
          · rcases List.mem_cons.mp h with h | h
            · omega
            · obtain ⟨z, hz, rfl⟩ := List.mem_map.mp h
              have := hm2 z (pm.mem_iff.mp hz)
              omega
          · rw [List.mem_singleton.mp h]
            exact Nat.le_refl _
      obtain ⟨es, ees, lenes, hes⟩ := hes
      have s1 : Same H' (upd H' c1 (.lst (intsV ns2))) := same_new n1
      refine ⟨by show 1 ≤ sizeLine; decide, fun c2 n2 => ?_⟩
      have s2 := s1.trans (same_new (o := .lst [V.int 0]) n2)
      have hc1 := same_new (o := .lst [V.int 0]) n2 c1 _ upd_same
      refine ⟨_, rfl, c2, c1, _, _, rfl, rfl, upd_same, hc1, small (by rw [List.length_map]; show 1 + _ ≤ _; omega), fun c3 n3 => ?_⟩
      have s3 := s2.trans (same_new (o := .lst ([V.int 0] ++ intsV ns2)) n3)
      refine ⟨_, rfl, S t, rfl, small (by rw [S_len]; omega), by show 1 ≤ sizeLine; decide, fun c4 n4 => ?_⟩
      rw [S_len]
      have s4 := s3.trans (same_new (o := .lst [V.int (t.length : Int)]) n4)
      have hc3 := same_new (o := .lst [V.int (t.length : Int)]) n4 c3 _ upd_same
      refine ⟨c3, c4, _, _, rfl, rfl, hc3, upd_same, small (by rw [List.length_append, List.length_map]; show 1 + _ + 1 ≤ _; omega), fun c5 n5 => ?_⟩
      rw [ees]
      have s5 := s4.trans (same_new (o := .lst (natsV es)) n5)
      have hc5 : (upd (upd (upd (upd (upd H' c1 (.lst (intsV ns2))) c2 (.lst [V.int 0])) c3 (.lst ([V.int 0] ++ intsV ns2))) c4 (.lst [V.int (t.length : Int)])) c5 (.lst (natsV es))) c5 = some (.lst (natsV es)) := upd_same
      generalize (upd (upd (upd (upd (upd H' c1 (.lst (intsV ns2))) c2 (.lst [V.int 0])) c3 (.lst ([V.int 0] ++ intsV ns2))) c4 (.lst [V.int (t.length : Int)])) c5 (.lst (natsV es))) = H5 at s5 hc5
      refine ⟨_, rfl, _, rfl, by omega, by omega, fun E nE => ?_⟩
      have hkk : ((k : Int)).toNat = k := by omega
      rw [hkk]
      refine lcn_gen walk_range (fun i v H => ∃ u : Tx, v = tv u ∧ u.length ≤ t.length ∧ ∀ c ∈ u, c ∈ t) (by omega) nE (fun _ _ => trivial) (fun _ => rfl) (fun _ _ _ _ _ h => h) (fun _ _ _ _ _ _ h => h) (fun i x H6 H7 Qc hlt sm y qc => ?_) (fun H6 acc sm hacc hal he => ?_)
      · obtain ⟨rfl, ex⟩ := y
        have ex2 : x = .int (i : Int) := ex.trans (congrArg V.int (Int.zero_add _))
        subst ex2
        have h1 : es[i]? = some (es[i]'(by omega)) := List.getElem?_eq_getElem (by omega)
        have h2 : es[i + 1]? = some (es[i + 1]'(by omega)) := List.getElem?_eq_getElem (by omega)
        generalize (es[i]'(by omega)) = a at h1
        generalize (es[i + 1]'(by omega)) = b at h2
        have hb := hes b (List.mem_of_getElem? h2)
        refine ⟨_, rfl, _, rfl, _, rfl, c5, _, _, _, rfl, rfl, lst_of (sm _ _ hc5), natsV_at rfl h1, _, rfl, _, rfl, _, rfl, _, _, rfl, rfl, c5, _, _, _, rfl, rfl, lst_of (sm _ _ hc5), natsV_at rfl h2, _, rfl, S t, rfl, small (by rw [S_len]; omega), ?_⟩
        rw [cutS_nat]
        refine qc _ _ (Same.refl _) ⟨_, rfl, ?_, sub_mem⟩
        unfold sub
        rw [List.length_take, List.length_drop]
        omega
      · have hu : ∃ us : List Tx, acc = txV us ∧ ∀ u ∈ us, u.length ≤ t.length ∧ ∀ c ∈ u, c ∈ t := by
          have : ∀ l : List V, (∀ v ∈ l, ∃ u : Tx, v = tv u ∧ u.length ≤ t.length ∧ ∀ c ∈ u, c ∈ t) → ∃ us : List Tx, l = txV us ∧ ∀ u ∈ us, u.length ≤ t.length ∧ ∀ c ∈ u, c ∈ t := fun l => by
            induction l with
            | nil => exact fun _ => ⟨[], rfl, fun _ h => by simp at h⟩
            | cons v l ih =>
              intro h
              obtain ⟨us, e, e2⟩ := ih fun u hu => h u (List.mem_cons_of_mem _ hu)
              obtain ⟨u, e3, e4⟩ := h v List.mem_cons_self
              refine ⟨u :: us, by rw [e, e3]; rfl, fun x hx => ?_⟩
              rcases List.mem_cons.mp hx with h | h
              · rw [h]; exact e4
              · exact e2 x h
          refine this acc fun v hv => ?_
          obtain ⟨i, hi⟩ := List.getElem?_of_mem hv
          exact he i v hi
        obtain ⟨us, rfl, hus⟩ := hu
        rw [List.length_map] at hal
        have sH : Same H' H6 := s5.trans sm
        refine q H6 E us (sb.trans (sameB_of sH)) ((pe.mono (by omega)).same sH) ((pe.same s5).ne nE) (none_of (sb.trans (sameB_of s5)) ((pe.same s5).ne nE) nE) hacc hal hus
end
end Lg
/-! lists of rules as tuples, sorted; what _law_pair and _law_long_pair give -/
namespace Lg
open PySem PySem.Spec PyProof.Rows L2
theorem perm_map {α β : Type} {f : α → β} : ∀ {l : List α} {ys : List β}, ys.Perm (l.map f) → ∃ l' : List α, ys = l'.map f ∧ l'.Perm l := by
  intro l ys h
  generalize e : l.map f = zs at h
  induction h generalizing l with
  | nil =>
    refine ⟨[], rfl, ?_⟩
    cases l with
    | nil => exact .refl _
    | cons a l => cases e
  | cons x h ih =>
    cases l with
    | nil => cases e
    | cons a l =>
      have e1 : f a = x := (List.cons.inj e).1
      have e2 : l.map f = _ := (List.cons.inj e).2
      obtain ⟨l', h1, h2⟩ := ih e2
      exact ⟨a :: l', by rw [h1, ← e1]; rfl, h2.cons a⟩
  | swap x y l0 =>
    match l, e with
    | a :: b :: l, e =>
      have e1 : f a = x := (List.cons.inj e).1
      have e2 : f b = y := (List.cons.inj (List.cons.inj e).2).1
      have e3 : l.map f = l0 := (List.cons.inj (List.cons.inj e).2).2
      exact ⟨b :: a :: l, by rw [← e1, ← e2, ← e3]; rfl, .swap a b l⟩
  | trans h1 h2 ih1 ih2 =>
    obtain ⟨l1, a1, a2⟩ := ih2 e
    obtain ⟨l2, b1, b2⟩ := ih1 a1.symm
    exact ⟨l2, b1, b2.trans a2⟩
/-- two lists that grow, with the same members, are one -/
theorem sorted_same : ∀ {a b : List Nat}, a.Pairwise (· < ·) → b.Pairwise (· < ·) → a.Perm b → a = b
  | [], b, _, _, h => h.nil_eq
  | x :: a, [], _, _, h => absurd h.length_eq (by simp)
  | x :: a, y :: b, h1, h2, h => by
    have p1 := List.pairwise_cons.mp h1
    have p2 := List.pairwise_cons.mp h2
    have e : x = y := by
      have m1 : x ∈ y :: b := h.mem_iff.mp List.mem_cons_self
      have m2 : y ∈ x :: a := h.mem_iff.mpr List.mem_cons_self
      rcases List.mem_cons.mp m1 with m1 | m1
      · exact m1
      rcases List.mem_cons.mp m2 with m2 | m2
      · exact m2.symm
      have := p2.1 x m1
      have := p1.1 y m2
      omega
    subst e
    rw [sorted_same p1.2 p2.2 h.cons_inv]
/-- rules as tuples in a list -/
def TupsAt (H : Hp) (l : Addr) (rs : Rls) : Prop := ∃ ts : List Addr, H l = some (.lst (ts.map V.ref)) ∧ ts.length = rs.length ∧ ∀ (i : Nat) (t : Addr) (r : Nat × Tx), ts[i]? = some t → rs[i]? = some r → H t = some (.tup [tv [r.1], tv r.2])
theorem TupsAt.nil {H : Hp} {l : Addr} (h : H l = some (.lst [])) : TupsAt H l [] := ⟨[], h, rfl, fun i t r a b => by simp at a⟩
theorem TupsAt.same {H H' : Hp} {l : Addr} {rs : Rls} (h : TupsAt H l rs) (e : Same H H') : TupsAt H' l rs := by
  obtain ⟨ts, h1, h2, h3⟩ := h
  exact ⟨ts, e _ _ h1, h2, fun i t r a b => e _ _ (h3 i t r a b)⟩
/-- a list other than l changes -/
theorem TupsAt.other {H : Hp} {l q : Addr} {rs : Rls} {xs : List V} {o : HO} (h : TupsAt H l rs) (n : l ≠ q) (hq : H q = some (.lst xs)) : TupsAt (upd H q o) l rs := by
  obtain ⟨ts, h1, h2, h3⟩ := h
  refine ⟨ts, by rw [upd_ne n]; exact h1, h2, fun i t r a b => ?_⟩
  have := h3 i t r a b
  rw [upd_ne]
  · exact this
  · intro z
    subst z
    rw [hq] at this
    cases this
theorem TupsAt.sameB {H H' : Hp} {p l : Addr} {rs : Rls} {m : Nat} (h : TupsAt H l rs) (e : SameB p H H') (n : l ≠ p) (hp : PenAt H p m) : TupsAt H' l rs := by
  obtain ⟨ts, h1, h2, h3⟩ := h
  refine ⟨ts, e _ _ n h1, h2, fun i t r a b => ?_⟩
  have := h3 i t r a b
  refine e _ _ (fun z => ?_) this
  obtain ⟨_, _, _, q, _⟩ := hp
  rw [z, q] at this
  cases this
theorem TupsAt.list {H : Hp} {l : Addr} {rs : Rls} (h : TupsAt H l rs) : ∃ xs, H l = some (.lst xs) ∧ xs.length = rs.length := by
  obtain ⟨ts, h1, h2, h3⟩ := h
  exact ⟨_, h1, by rw [List.length_map]; exact h2⟩
theorem TupsAt.snoc {H : Hp} {l t : Addr} {rs : Rls} {r : Nat × Tx} {xs : List V} (h : TupsAt H l rs) (hl : H l = some (.lst xs)) (ht : H t = some (.tup [tv [r.1], tv r.2])) : TupsAt (upd H l (.lst (xs ++ [.ref t]))) l (rs ++ [r]) := by
  obtain ⟨ts, h1, h2, h3⟩ := h
  rw [hl] at h1
  have e : xs = ts.map V.ref := by
    have := Option.some.inj h1
    cases this
    rfl
  subst e
  refine ⟨ts ++ [t], by rw [upd_same, List.map_append]; rfl, by rw [List.length_append, List.length_append, h2]; rfl, fun i u r' a b => ?_⟩
  have key : H u = some (.tup [tv [r'.1], tv r'.2]) := by
    by_cases hi : i < ts.length
    · rw [List.getElem?_append_left hi] at a
      rw [List.getElem?_append_left (by omega)] at b
      exact h3 i u r' a b
    · have hi2 := (List.getElem?_eq_some_iff.mp a).1
      rw [List.length_append] at hi2
      have e : i = ts.length := by
        have : [t].length = 1 := rfl
        omega
      subst e
      rw [List.getElem?_append_right (Nat.le_refl _), Nat.sub_self] at a
      rw [h2, List.getElem?_append_right (Nat.le_refl _), Nat.sub_self] at b
      have e1 : t = u := Option.some.inj a
      have e2 : r = r' := Option.some.inj b
      rw [← e1, ← e2]
      exact ht
  rw [upd_ne]
  · exact key
  · intro z
    subst z
    rw [hl] at key
    cases key
def keyH (H : Hp) : V → List Nat
  | .ref t => match H t with
    | some (.tup [.str a, .str b]) => a.cps.toList ++ b.cps.toList
    | _ => []
  | _ => []
section
variable {P : Program} {w : World} {K : PySem.W.Frag} {mg : Str → Option Value} {base : Heap}
theorem sort_zip {H : Hp} {l : Addr} {rs : Rls} (h : TupsAt H l rs) : ∃ zs : List (Addr × (Nat × Tx)), H l = some (.lst (zs.map fun z => V.ref z.1)) ∧ zs.map Prod.snd = rs ∧ (∀ z ∈ zs, H z.1 = some (.tup [tv [z.2.1], tv z.2.2])) ∧ (∀ z ∈ zs, keyH H (.ref z.1) = z.2.1 :: z.2.2) := by
  obtain ⟨ts, h1, h2, h3⟩ := h
  have hz : ts.map V.ref = (ts.zip rs).map fun z => V.ref z.1 := by
    have : (ts.zip rs).map Prod.fst = ts := List.map_fst_zip (by omega)
    conv => lhs; rw [← this]
    rw [List.map_map]
    rfl
  have hzz : ∀ z ∈ ts.zip rs, H z.1 = some (.tup [tv [z.2.1], tv z.2.2]) := fun z hz => by
    obtain ⟨i, hi⟩ := List.getElem?_of_mem hz
    rw [List.getElem?_zip_eq_some] at hi
    exact h3 i _ _ hi.1 hi.2
  have hkey : ∀ z ∈ ts.zip rs, keyH H (.ref z.1) = z.2.1 :: z.2.2 := fun z hz => by
    show (match H z.1 with | some (.tup [.str a, .str b]) => a.cps.toList ++ b.cps.toList | _ => []) = _
    rw [hzz z hz]
    rfl
  exact ⟨ts.zip rs, by rw [← hz]; exact h1, List.map_snd_zip (by omega), hzz, hkey⟩
/-- what sorted asks -/
theorem sort_in {H : Hp} {l : Addr} {rs : Rls} {xs : List V} (h : TupsAt H l rs) (hl : H l = some (.lst xs)) : ∀ x ∈ xs, ∃ t c r, x = V.ref t ∧ H t = some (.tup [.str ⟨#[c]⟩, .str r]) ∧ keyH H x = c :: r.cps.toList := by
  obtain ⟨zs, h1, h2, h3, h4⟩ := sort_zip h
  rw [hl] at h1
  cases h1
  intro x hx
  obtain ⟨z, hz', rfl⟩ := List.mem_map.mp hx
  exact ⟨z.1, z.2.1, S z.2.2, rfl, h3 z hz', h4 z hz'⟩
/-- what tuple(sorted(..)) gives -/
theorem sort_out {H : Hp} {l p T : Addr} {rs : Rls} {xs ys : List V} (h : TupsAt H l rs) (hl : H l = some (.lst xs)) (nd : (keysOf rs).Nodup) (pw : ys.Pairwise fun x y => ¬ keyH H y < keyH H x) (pm : ys.Perm xs) (np : H p = none) (nT : upd H p (.lst ys) T = none) :
    ∃ rs', Same H (upd (upd H p (.lst ys)) T (.tup ys)) ∧ RulesAt K (upd (upd H p (.lst ys)) T (.tup ys)) T rs' ∧ rs'.Perm rs ∧ (keysOf rs').Pairwise (· < ·) := by
  obtain ⟨zs0, h1, h2, h3, h4⟩ := sort_zip h
  rw [hl] at h1
  cases h1
  obtain ⟨zs, rfl, pz⟩ := perm_map pm
  have s1 : Same H (upd (upd H p (.lst (zs.map fun z => V.ref z.1))) T (.tup (zs.map fun z => V.ref z.1))) := (same_new np).trans (same_new nT)
  have pr : (zs.map Prod.snd).Perm rs := by
    have := pz.map Prod.snd
    rw [h2] at this
    exact this
  refine ⟨zs.map Prod.snd, s1, ⟨zs.map Prod.fst, ?_, by rw [List.length_map, List.length_map], fun i t r a b => ?_⟩, pr, ?_⟩
  · refine tup_of ?_
    rw [upd_same, List.map_map]
    rfl
  · rw [List.getElem?_map, Option.map_eq_some_iff] at a b
    obtain ⟨z, hz1, rfl⟩ := a
    obtain ⟨z2, hz2, rfl⟩ := b
    rw [hz1] at hz2
    cases hz2
    exact tup_of (s1 _ _ (h3 z (pz.mem_iff.mp (List.mem_of_getElem? hz1))))
  · have nd2 : (keysOf (zs.map Prod.snd)).Nodup := (pr.map (fun r : Nat × Tx => r.1)).symm.nodup nd
    unfold keysOf at nd2 ⊢
    rw [List.map_map] at nd2 ⊢
    rw [List.pairwise_map] at pw ⊢
    have nd3 := List.pairwise_map.mp nd2
    have pw2 := pw.and nd3
    refine List.Pairwise.imp_of_mem (fun {a b} ha hb hab => ?_) pw2
    obtain ⟨c1, c2⟩ := hab
    rw [h4 a (pz.mem_iff.mp ha), h4 b (pz.mem_iff.mp hb), one_lt] at c1
    show a.2.1 < b.2.1
    have c2' : a.2.1 ≠ b.2.1 := c2
    have : ¬ b.2.1 < a.2.1 := fun h => c1 (.inl h)
    omega
/-- the raw rules, before they are sorted -/
structure RawOk (rs : Rls) (ls : List Nat) : Prop where
  keys : keysOf rs = ls
  nd : ls.Nodup
  len : ls.length ≤ 8
  sign : ∀ c ∈ ls, 97 ≤ c ∧ c ≤ 122
  word : ∀ p ∈ rs, p.2.length ≤ 6 ∧ ∀ d ∈ p.2, d ∈ ls
theorem RawOk.ok {rs rs' : Rls} {ls : List Nat} (h : RawOk rs ls) (p : rs'.Perm rs) : RlsOk rs' := by
  have pk : (keysOf rs').Perm ls := by
    rw [← h.keys]
    exact p.map (·.1)
  refine ⟨pk.symm.nodup h.nd, ?_, fun c hc => h.sign c (pk.mem_iff.mp hc), fun r hr => ?_⟩
  · have := h.len
    have h2 := pk.length_eq
    unfold keysOf at h2
    rw [List.length_map] at h2
    omega
  · have := h.word r (p.mem_iff.mp hr)
    exact ⟨this.1, fun d hd => pk.mem_iff.mpr (this.2 d hd)⟩
/-- what a pair is -/
def PairRes (K : PySem.W.Frag) (H : Hp) (v : V) : Prop := ∃ (R g : Addr) (b1 b2 : V) (f : Tx) (r1 r2 : Rls), v = .ref R ∧ H R = some (.tup [b1, b2, .ref g]) ∧ BookAt K H b1 f r1 ∧ BookAt K H b2 f r2 ∧ RlsOk r1 ∧ RlsOk r2 ∧ keysOf r2 = keysOf r1 ∧ f.length ≤ 12 ∧ (∀ c ∈ f, c ∈ keysOf r1) ∧ 0 < r1.length
end
end Lg
/-! _law_pair walked -/
namespace Lg
open PySem PySem.Spec PyProof.Rows L2
theorem nil_of_cut {xs : List V} {n : Nat} {z : Int} (e : z = (n : Int)) : cutV xs none (some z) = xs.take n := by
  subst e
  exact cutV_to xs n
def WordsOk (rs : Rls) (ls : List Nat) : Prop := ∀ p ∈ rs, p.2.length ≤ 6 ∧ ∀ d ∈ p.2, d ∈ ls
theorem WordsOk.app {a b : Rls} {ls : List Nat} (h : WordsOk a ls) (g : WordsOk b ls) : WordsOk (a ++ b) ls := fun p hp => by
  rcases List.mem_append.mp hp with hp | hp
  · exact h p hp
  · exact g p hp
theorem keysOf_app (a b : Rls) : keysOf (a ++ b) = keysOf a ++ keysOf b := List.map_append ..
theorem join_sum {ts : List Tx} (h : ts.flatten.length ≤ 16777216) : ((ts.map S).map (·.length)).sum + (ts.map S).length * (S []).length ≤ 16777216 := by
  have e : ((ts.map S).map (·.length)).sum = ts.flatten.length := by
    rw [List.map_map, List.length_flatten]
    congr 1
  rw [e]
  exact h
theorem ones_flat (l : List Nat) : (l.map fun c => [c]).flatten = l := by
  induction l with
  | nil => rfl
  | cons c l ih => rw [List.map_cons, List.flatten_cons, ih]; rfl
theorem lett_tx (l : List Nat) : lettV l = txV (l.map fun c => [c]) := by
  unfold lettV txV
  rw [List.map_map]
  rfl
section
variable {P : Program} {w : World} {K : PySem.W.Frag} {mg : Str → Option Value} {base : Heap}
def spPair (K : PySem.W.Frag) : Sp := fun vs H Q _ => ∃ (p sz : Addr) (m : Nat), vs = [.ref p, .ref sz] ∧ PenAt H p m ∧ m ≤ 100 ∧ sz ≠ p ∧ SqL K H sz [.int 3, .int 3, .int 2] ∧ ∀ H' v, SameB p H H' → PairRes K H' v → Q v H'
theorem c_law_pair (T : Facts K mg) : C8.Cal P w K mg base 3 "_law_pair" (spPair K) [] := by
  refine cal T.d_law_pair sc_law_pair (fun vs H Q E h => ?_) (fun f cdv A outer s H vs Q E hr h => ?_)
  · obtain ⟨p, sz, m, rfl, _⟩ := h
    rfl
  · obtain ⟨p, sz, m, rfl, hp, hm, szp, hsz, q⟩ := h
    refine ⟨_, (pss_cons (ps_set (i := 2) sc_law_pair.nd rfl (Or.inl rfl) (pe_lst pa_nil))
      (pss_cons (ps_set (i := 3) sc_law_pair.nd rfl (Or.inl rfl) (C8.pe_c (c_law_signs T) hr (by decide) rfl (pa_cons (pv 0) (pa_cons pe_int pa_nil))))
      (pss_cons (ps_for PassesOwn.never rfl (pi_list (pe_slice (r := rSlL K) sl_list (pv 1) po_none (po_some (pe_op op_add pe_int (C8.pe_c (c_law_take T) hr (by decide) rfl (pa_cons (pv 0) (pa_cons (pe_callB call_len_seq (by rfl) T.b_len PySem.boot_len (pa_cons (pv 1) pa_nil)) pa_nil))))))) (pg_name (i := 4) sc_law_pair.nd rfl (Or.inl rfl))
      (pss_cons (ps_set (i := 5) sc_law_pair.nd rfl (Or.inl rfl) (pe_op op_add pe_int (C8.pe_c (c_law_take T) hr (by decide) rfl (pa_cons (pv 0) (pa_cons (pv 4) pa_nil)))))
        (pss_cons (ps_expr (pe_bm PySem.F.plainAttrs_list PySem.F.slot_list_append PySem.F.type_list_append mt_append (pv 2) (pa_cons (pe_join pe_str (pe_slice (r := rSlL K) sl_list (pv 3) po_none (po_some (pv 5)))) pa_nil)))
        (pss_one (ps_set (i := 3) sc_law_pair.nd rfl (Or.inl rfl) (pe_slice (r := rSlL K) sl_list (pv 3) (po_some (pv 5)) po_none))))))
      (pss_cons (ps_set (i := 6) sc_law_pair.nd rfl (Or.inl rfl) (pe_lst pa_nil))
      (pss_cons (ps_set (i := 7) sc_law_pair.nd rfl (Or.inl rfl) (pe_lst pa_nil))
      (pss_cons (ps_for PassesOwn.never rfl (pi_list (pv 2)) (pg_name (i := 8) sc_law_pair.nd rfl (Or.inl rfl))
      (pss_cons (ps_set (i := 9) sc_law_pair.nd rfl (Or.inl rfl) (C8.pe_c (c_law_text T) hr (by decide) rfl (pa_cons (pv 0) (pa_cons (pv 2) (pa_cons (C8.pe_c (c_law_take T) hr (by decide) rfl (pa_cons (pv 0) (pa_cons pe_int pa_nil))) pa_nil)))))
        (pss_cons (ps_set (i := 5) sc_law_pair.nd rfl (Or.inl rfl) (pe_callB call_len_str (by rfl) T.b_len PySem.boot_len (pa_cons (pv 8) pa_nil)))
        (pss_cons (ps_set (i := 10) sc_law_pair.nd rfl (Or.inl rfl) (C8.pe_c (c_law_cutting T) hr (by decide) rfl (pa_cons (pv 0) (pa_cons (pv 9) (pa_cons (pv 5) pa_nil)))))
        (pss_cons (ps_set (i := 11) sc_law_pair.nd rfl (Or.inl rfl) (C8.pe_c (c_law_cutting T) hr (by decide) rfl (pa_cons (pv 0) (pa_cons (pv 9) (pa_cons (pv 5) pa_nil)))))
        (pss_cons (ps_if (pt_cmpR op_eq (C8.pe_c (c_law_take T) hr (by decide) rfl (pa_cons (pv 0) (pa_cons pe_int pa_nil))) pe_int (nomark _))
        (pss_one (ps_set (i := 11) sc_law_pair.nd rfl (Or.inl rfl) (pv 10)))
        pss_nil)
        (pss_one (ps_for PassesOwn.never rfl (pi_range1 rfl T.b_range (pa_cons (pv 5) pa_nil)) (pg_name (i := 12) sc_law_pair.nd rfl (Or.inl rfl))
        (pss_cons (ps_expr (pe_bm PySem.F.plainAttrs_list PySem.F.slot_list_append PySem.F.type_list_append mt_append (pv 6) (pa_cons (pe_tup (pa_cons (pe_ix (r := rIxS) ix_str (pv 8) (pv 12) (fun _ _ => rfl)) (pa_cons (pe_ix (r := rIxL K) ix_list (pv 10) (pv 12) (fun _ _ => rfl)) pa_nil))) pa_nil)))
          (pss_one (ps_expr (pe_bm PySem.F.plainAttrs_list PySem.F.slot_list_append PySem.F.type_list_append mt_append (pv 7) (pa_cons (pe_tup (pa_cons (pe_ix (r := rIxS) ix_str (pv 8) (pv 12) (fun _ _ => rfl)) (pa_cons (pe_ix (r := rIxL K) ix_list (pv 11) (pv 12) (fun _ _ => rfl)) pa_nil))) pa_nil)))))))))))))
      (pss_cons (ps_set (i := 13) sc_law_pair.nd rfl (Or.inl rfl) (C8.pe_c (c_law_text T) hr (by decide) rfl (pa_cons (pv 0) (pa_cons (pv 2) (pa_cons (C8.pe_c (c_law_take T) hr (by decide) rfl (pa_cons (pv 0) (pa_cons pe_int pa_nil))) pa_nil)))))
      (pss_one (ps_ret (pe_tup (pa_cons (pe_tup (pa_cons (pv 13) (pa_cons (pe_callTy call_tuple_of (by rfl) T.b_tuple (by decide +kernel) (pa_cons (pe_callB cr_sortedS2 (by rfl) T.b_sorted (by decide +kernel) (pa_cons (pv 6) pa_nil)) pa_nil)) pa_nil))) (pa_cons (pe_tup (pa_cons (pv 13) (pa_cons (pe_callTy call_tuple_of (by rfl) T.b_tuple (by decide +kernel) (pa_cons (pe_callB cr_sortedS2 (by rfl) T.b_sorted (by decide +kernel) (pa_cons (pv 7) pa_nil)) pa_nil)) pa_nil))) (pa_cons (pv 2) pa_nil))))))))))))), ?_⟩
    refine ⟨Nat.zero_le _, fun G nG => ?_⟩
    have Gp : G ≠ p := hp.ne nG
    have s1 : Same H (upd H G (.lst [])) := same_new nG
    refine ⟨_, rfl, p, m, rfl, hp.upd Gp, by omega, fun H2 sA ls sb2 pe2 sAp nsA hsA hl8 nd az => ?_⟩
    have sAG : sA ≠ G := fun z => by subst z; rw [upd_same] at nsA; cases nsA
    have hG2 : H2 G = some (.lst []) := sb2 G _ Gp upd_same
    have sb02 : SameB p H H2 := (sameB_of s1).trans sb2
    -- the groups
    refine ⟨_, rfl, _, rfl, _, rfl, sz, _, rfl, .inl (sb02.seq szp hsz), p, _, m + 8, rfl, pe2, by omega, by decide, by decide, fun H3 v sb3 pe3 h0 h1 => ?_⟩
    have h1' : v < 3 := h1
    obtain ⟨j, hj⟩ : ∃ j : Nat, (1 : Int) + v = (j : Int) := ⟨(1 + v).toNat, by omega⟩
    have sb03 := sb02.trans sb3
    refine ⟨_, _, rfl, rfl, _, congrArg V.int hj, sz, _, rfl, sb03.seq szp hsz, fun a na => ?_⟩
    rw [nil_of_cut rfl]
    have hj3 : j ≤ 3 := by omega
    have hj1 : 1 ≤ j := by omega
    have aG : a ≠ G := fun z => by subst z; rw [sb3 a _ Gp hG2] at na; cases na
    have asA : a ≠ sA := fun z => by subst z; rw [sb3 a _ sAp hsA] at na; cases na
    have ap : a ≠ p := pe3.ne na
    have na0 : H a = none := none_of sb03 ap na
    have nsA0 : H sA = none := none_of (sameB_of s1) sAp nsA
    have hlz : (([V.int 3, .int 3, .int 2] : List V).take j).length = j := by
      rw [List.length_take]
      show min j 3 = j
      omega
    refine ⟨a, rfl, ⟨_, lst_of upd_same⟩, ?_⟩
    refine for_it (walk_list (xs := ([V.int 3, .int 3, .int 2] : List V).take j)) (fun i σ H' => ∃ (gs : List Tx) (rest : List Nat) (sB : Addr) (y4 y5 : Option V),
        σ = [some (.ref p), some (.ref sz), some (.ref G), some (.ref sB), y4, y5, none, none, none, none, none, none, none, none] ∧
        SameB p H H' ∧ PenAt H' p (m + 9 + i) ∧ H' G = some (.lst (txV gs)) ∧ H' a = some (.lst (([V.int 3, .int 3, .int 2] : List V).take j)) ∧ H' sB = some (.lst (lettV rest)) ∧ sB ≠ p ∧ sB ≠ G ∧ sB ≠ a ∧
        gs.length = i ∧ (∀ g ∈ gs, 1 ≤ g.length ∧ g.length ≤ 3) ∧ gs.flatten ++ rest = ls ∧ gs.flatten.length ≤ 3 * i)
      ⟨[], ls, sA, none, none, rfl, sb03.trans (sameB_of (same_new na)), (pe3.upd ap).mono (by omega), by rw [upd_ne aG.symm]; exact sb3 _ _ Gp hG2, upd_same, by rw [upd_ne asA.symm]; exact sb3 _ _ sAp hsA, sAp, sAG, asA.symm, rfl, (fun _ h => by simp at h), rfl, Nat.zero_le _⟩
      (fun i σ H' _ pp => ?_) (fun i x σ H' H'' hlt pp y => ?_) (fun σ H' pp => ?_)
    · obtain ⟨_, _, _, _, _, _, _, _, _, h, _⟩ := pp
      exact lst_of h
    · obtain ⟨gs, rest, sB, y4, y5, rfl, sb, pe, hG, ha, hsB, sBp, sBG, sBa, hgl, hg3, hcat, hfl⟩ := pp
      obtain ⟨rfl, hx⟩ := y
      rw [hlz] at hlt
      have hz : ∃ z : Nat, x = .int (z : Int) ∧ 1 ≤ z ∧ z ≤ 3 := by
        rw [List.getElem?_take_of_lt hlt] at hx
        have h3 : i < 3 := by omega
        match i, h3, hx with
        | 0, _, hx => exact ⟨3, (Option.some.inj hx).symm, by omega, by omega⟩
        | 1, _, hx => exact ⟨3, (Option.some.inj hx).symm, by omega, by omega⟩
        | 2, _, hx => exact ⟨2, (Option.some.inj hx).symm, by omega, by omega⟩
      obtain ⟨z, rfl, z1, z3⟩ := hz
      have hrl : gs.flatten.length + rest.length = 8 := by
        have := congrArg List.length hcat
        rw [List.length_append, hl8] at this
        exact this
      refine ⟨_, rfl, _, rfl, p, (z : Int), m + 9 + i, rfl, pe, by omega, by omega, by omega, fun H4 v4 sb4 pe4 h40 h41 => ?_⟩
      obtain ⟨k, hk⟩ : ∃ k : Nat, (1 : Int) + v4 = (k : Int) := ⟨(1 + v4).toNat, by omega⟩
      refine ⟨_, _, rfl, rfl, ?_⟩
      rw [show ((fun (i j : Int) => V.int (i + j)) 1 v4) = V.int (k : Int) from congrArg V.int hk]
      have hsB4 := sb4 _ _ sBp hsB
      have hG4 := sb4 _ _ Gp hG
      refine ⟨_, rfl, .inl ⟨rfl, _, lst_of hG4⟩, ⟨_, rfl⟩, _, rfl, _, rfl, _, rfl, sB, _, rfl, lst_of hsB4, fun c nc => ?_⟩
      rw [nil_of_cut rfl, ← List.map_take]
      have cp : c ≠ p := pe4.ne nc
      have cG : c ≠ G := fun z => by subst z; rw [hG4] at nc; cases nc
      have csB : c ≠ sB := fun z => by subst z; rw [hsB4] at nc; cases nc
      have ca : c ≠ a := fun z => by subst z; rw [sb4 _ _ ap ha] at nc; cases nc
      refine ⟨S [], c, ((rest.take k).map fun c => [c]).map S, rfl, rfl, .inl (by rw [List.map_map, List.map_map]; exact lst_of upd_same), join_sum (by rw [ones_flat, List.length_take]; omega), ?_⟩
      rw [join_S, ones_flat]
      refine ⟨G, _, _, rfl, rfl, by rw [upd_ne cG.symm]; exact hG4, small' (by rw [List.length_map]; omega), ?_⟩
      refine ⟨_, rfl, _, rfl, _, rfl, sB, _, rfl, lst_of (by rw [upd_ne sBG, upd_ne csB.symm]; exact hsB4), fun d nd' => ?_⟩
      have dG : d ≠ G := fun z => by subst z; rw [upd_same] at nd'; cases nd'
      rw [upd_ne dG] at nd'
      have dc : d ≠ c := fun z => by subst z; rw [upd_same] at nd'; cases nd'
      rw [upd_ne dc] at nd'
      have dp : d ≠ p := pe4.ne nd'
      have da : d ≠ a := fun z => by subst z; rw [sb4 _ _ ap ha] at nd'; cases nd'
      have sbF := sb.trans sb4
      rw [cutV_from, ← List.map_drop]
      refine ⟨gs ++ [rest.take k], rest.drop k, d, _, _, rfl, ?_, ?_, ?_, ?_, upd_same, dp, dG, da, ?_, ?_, ?_, ?_⟩
      · exact sameB_mut (sameB_mut (sameB_mut sbF (none_of sbF cp nc)) nG) (none_of sbF dp nd')
      · exact (((pe4.upd cp).upd Gp).upd dp).mono (by omega)
      · rw [upd_ne dG.symm, upd_same, txV, txV, List.map_append]
        rfl
      · rw [upd_ne da.symm, upd_ne aG, upd_ne ca.symm]
        exact sb4 _ _ ap ha
      · rw [List.length_append, hgl]
        rfl
      · intro g hg
        rcases List.mem_append.mp hg with h | h
        · exact hg3 g h
        · rw [List.mem_singleton.mp h, List.length_take]
          omega
      · rw [List.flatten_append, List.flatten_cons, List.flatten_nil, List.append_nil, List.append_assoc, List.take_append_drop]
        exact hcat
      · rw [List.flatten_append, List.flatten_cons, List.flatten_nil, List.append_nil, List.length_append, List.length_take]
        omega
    obtain ⟨gs, rest, sB, y4, y5, rfl, sb, pe, hG, ha, hsB, sBp, sBG, sBa, hgl, hg3, hcat, hfl⟩ := pp
    rw [hlz] at hgl pe
    -- the two lists of rules
    refine ⟨Nat.zero_le _, fun o1 n1 => ⟨Nat.zero_le _, fun o2 n2 => ?_⟩⟩
    have o1p : o1 ≠ p := pe.ne n1
    have o1G : o1 ≠ G := fun z => by subst z; rw [hG] at n1; cases n1
    have o21 : o2 ≠ o1 := fun z => by subst z; rw [upd_same] at n2; cases n2
    rw [upd_ne o21] at n2
    have o2p : o2 ≠ p := pe.ne n2
    have o2G : o2 ≠ G := fun z => by subst z; rw [hG] at n2; cases n2
    have n10 := none_of sb o1p n1
    have n20 := none_of sb o2p n2
    have ndG : gs.flatten.Nodup := by
      rw [← hcat] at nd
      exact (List.nodup_append.mp nd).1
    have azG : ∀ c ∈ gs.flatten, 97 ≤ c ∧ c ≤ 122 := fun c hc => az c (by rw [← hcat]; exact List.mem_append_left _ hc)
    have g8 : gs.flatten.length ≤ 8 := by
      have := congrArg List.length hcat
      rw [List.length_append, hl8] at this
      omega
    have gpos : 0 < gs.flatten.length := by
      match gs, hgl, hg3 with
      | [], hgl, _ => simp at hgl; omega
      | g :: gs, _, hg3 =>
        rw [List.flatten_cons, List.length_append]
        have := (hg3 g List.mem_cons_self).1
        omega
    obtain ⟨L, hL⟩ : ∃ L, gs.flatten = L := ⟨_, rfl⟩
    rw [hL] at ndG azG g8 gpos
    have g0 : 0 < gs.length := by omega
    have g100 : ∀ t ∈ gs, t.length ≤ 100 := fun t ht => by
      have := (hg3 t ht).2
      omega
    have hgL : ∀ t ∈ gs, ∀ c ∈ t, c ∈ L := fun t ht c hc => by
      rw [← hL]
      exact List.mem_flatten.mpr ⟨t, ht, hc⟩
    have txt : ∀ ts : List Tx, ∀ k : Nat, ts.length = k → (∀ t ∈ ts, t ∈ gs) → ts.flatten.length ≤ 3 * k ∧ ∀ c ∈ ts.flatten, c ∈ L := fun ts k e h => by
      have := flat_len (k := 3) fun t ht => (hg3 t (h t ht)).2
      refine ⟨by omega, fun c hc => ?_⟩
      obtain ⟨t, ht, hc⟩ := List.mem_flatten.mp hc
      exact hgL t (h t ht) c hc
    have hG7 : (upd (upd H' o1 (.lst [])) o2 (.lst [])) G = some (.lst (txV gs)) := by rw [upd_ne o2G.symm, upd_ne o1G.symm]; exact hG
    refine ⟨_, rfl, G, rfl, ⟨_, lst_of hG7⟩, ?_⟩
    refine for_it (walk_list (xs := txV gs)) (fun i σ H' => ∃ (r1 r2 : Rls) (y3 y4 y5 y8 y9 y10 y11 y12 y13 : Option V),
        σ = [some (.ref p), some (.ref sz), some (.ref G), y3, y4, y5, some (.ref o1), some (.ref o2), y8, y9, y10, y11, y12, y13] ∧
        SameB p H H' ∧ PenAt H' p (m + 20 + 12 * i) ∧ H' G = some (.lst (txV gs)) ∧ TupsAt H' o1 r1 ∧ TupsAt H' o2 r2 ∧ keysOf r1 = (gs.take i).flatten ∧ keysOf r2 = (gs.take i).flatten ∧ WordsOk r1 L ∧ WordsOk r2 L)
      ⟨[], [], _, _, _, _, _, _, _, _, _, rfl, sameB_mut (sameB_mut sb n10) n20, ((pe.upd o1p).upd o2p).mono (by omega), hG7, .nil (by rw [upd_ne o21.symm]; exact upd_same), .nil upd_same, rfl, rfl, (fun _ h => by simp at h), (fun _ h => by simp at h)⟩
      (fun i σ H' _ pp => ?_) (fun i x σ H0' H7 hlt pp y => ?_) (fun σ H7 pp => ?_)
    · obtain ⟨_, _, _, _, _, _, _, _, _, _, _, _, _, _, h, _⟩ := pp
      exact lst_of h
    · obtain ⟨r1, r2, y3, y4, y5, y8, y9, y10, y11, y12, y13, rfl, sb7, pe7, hG7, t1, t2, k1, k2, w1, w2⟩ := pp
      obtain ⟨rfl, hx⟩ := y
      rw [List.length_map] at hlt
      rw [List.getElem?_map, Option.map_eq_some_iff] at hx
      obtain ⟨g, hg, rfl⟩ := hx
      have hgm := List.mem_of_getElem? hg
      obtain ⟨ga, gb⟩ := hg3 g hgm
      have lfl : ((gs.take i).flatten).length ≤ 1000 := by
        have h2 := flat_len (ts := gs.take i) (k := 3) fun t ht => (hg3 t (List.mem_of_mem_take ht)).2
        have h3 : (gs.take i).length ≤ gs.length := List.length_take_le' ..
        omega
      have lr1 : r1.length ≤ 1000 := by
        have h1 := congrArg List.length k1
        unfold keysOf at h1
        rw [List.length_map] at h1
        omega
      have lr2 : r2.length ≤ 1000 := by
        have h1 := congrArg List.length k2
        unfold keysOf at h1
        rw [List.length_map] at h1
        omega
      -- behind
      refine ⟨_, rfl, _, rfl, _, rfl, p, 3, m + 20 + 12 * i, rfl, pe7, by omega, by decide, by decide, fun H9 v9 sb9 pe9 h90 h91 => ?_⟩
      obtain ⟨k, rfl⟩ : ∃ k : Nat, v9 = (k : Int) := ⟨v9.toNat, by omega⟩
      refine ⟨p, G, gs, _, k, rfl, pe9, by omega, Gp, lst_of (sb9 _ _ Gp hG7), g0, by omega, g100, by omega, fun H10 ts sb10 pe10 tl tm => ?_⟩
      obtain ⟨bl, bm⟩ := txt ts k tl tm
      generalize ts.flatten = B at bl bm
      refine ⟨_, rfl, S g, rfl, small (by rw [S_len]; omega), ?_⟩
      rw [S_len]
      refine ⟨_, rfl, _, rfl, _, rfl, p, B, _, g.length, rfl, pe10, by omega, by omega, ga, by omega, fun H11 U us sb11 pe11 Up nU hU lU hus => ?_⟩
      refine ⟨_, rfl, _, rfl, _, rfl, p, B, _, g.length, rfl, pe11, by omega, by omega, ga, by omega, fun H12 V2 vs sb12 pe12 Vp nV hV lV hvs => ?_⟩
      refine ⟨_, rfl, p, 4, _, rfl, pe12, by omega, by decide, by decide, fun H13 v13 sb13 pe13 _ _ => ?_⟩
      have sb713 : SameB p H7 H13 := (((sb9.trans sb10).trans sb11).trans sb12).trans sb13
      have hU13 := sb13 _ _ Up (sb12 _ _ Up hU)
      have hV13 := sb13 _ _ Vp hV
      obtain ⟨xs1, hx1, _⟩ := t1.list
      obtain ⟨xs2, hx2, _⟩ := t2.list
      have Uo1 : U ≠ o1 := fun z => by subst z; rw [(sb9.trans sb10) _ _ o1p hx1] at nU; cases nU
      have Uo2 : U ≠ o2 := fun z => by subst z; rw [(sb9.trans sb10) _ _ o2p hx2] at nU; cases nU
      have Vo1 : V2 ≠ o1 := fun z => by subst z; rw [((sb9.trans sb10).trans sb11) _ _ o1p hx1] at nV; cases nV
      have Vo2 : V2 ≠ o2 := fun z => by subst z; rw [((sb9.trans sb10).trans sb11) _ _ o2p hx2] at nV; cases nV
      have t1' := t1.sameB sb713 o1p pe7
      have t2' := t2.sameB sb713 o2p pe7
      have huv : ∀ us : List Tx, (∀ u ∈ us, u.length ≤ B.length ∧ ∀ c ∈ u, c ∈ B) → ∀ u ∈ us, u.length ≤ 6 ∧ ∀ c ∈ u, c ∈ L := fun us h u hu => by
        have := h u hu
        exact ⟨by omega, fun c hc => bm c (this.2 c hc)⟩
      have hus' := huv us hus
      have hvs' := huv vs hvs
      refine ⟨rfl, _, rfl, ite2 (fun e => ⟨_, rfl, ?_⟩) (fun e => ?_)⟩
      all_goals
        refine ⟨_, rfl, _, rfl, by omega, by omega, ?_⟩
        rw [Int.toNat_natCast]
        refine for_it walk_range (fun j σ H' => ∃ (W : Addr) (ws : List Tx) (q1 q2 : Rls) (y12 y13 : Option V),
            σ = [some (.ref p), some (.ref sz), some (.ref G), y3, y4, some (.int (g.length : Int)), some (.ref o1), some (.ref o2), some (tv g), some (tv B), some (.ref U), some (.ref W), y12, y13] ∧
            SameB p H H' ∧ PenAt H' p (m + 20 + 12 * (i + 1)) ∧ H' G = some (.lst (txV gs)) ∧ H' U = some (.lst (txV us)) ∧ H' W = some (.lst (txV ws)) ∧ W ≠ o1 ∧ W ≠ o2 ∧ ws.length = g.length ∧ (∀ u ∈ ws, u.length ≤ 6 ∧ ∀ c ∈ u, c ∈ L) ∧
            TupsAt H' o1 (r1 ++ q1) ∧ TupsAt H' o2 (r2 ++ q2) ∧ keysOf q1 = g.take j ∧ keysOf q2 = g.take j ∧ WordsOk q1 L ∧ WordsOk q2 L)
          (by
            have a1 : SameB p H H13 := sb7.trans sb713
            have a2 : PenAt H13 p (m + 20 + 12 * (i + 1)) := pe13.mono (by omega)
            have a3 := sb713 _ _ Gp hG7
            have b1 : TupsAt H13 o1 (r1 ++ []) := by rw [List.append_nil]; exact t1'
            have b2 : TupsAt H13 o2 (r2 ++ []) := by rw [List.append_nil]; exact t2'
            have b3 : WordsOk [] L := fun _ h => by simp at h
            first
              | exact ⟨U, us, [], [], _, _, rfl, a1, a2, a3, hU13, hU13, Uo1, Uo2, lU, hus', b1, b2, rfl, rfl, b3, b3⟩
              | exact ⟨V2, vs, [], [], _, _, rfl, a1, a2, a3, hU13, hV13, Vo1, Vo2, lV, hvs', b1, b2, rfl, rfl, b3, b3⟩)
          (fun _ _ _ _ _ => trivial) (fun j x σ H1' H14 hlt2 pp y => ?_) (fun σ H14 pp => ?_)
        · obtain ⟨W, ws, q1, q2, y12, y13, rfl, sb14, pe14, hG14, hU14, hW14, Wo1, Wo2, lW, hws, u1, u2, kq1, kq2, wq1, wq2⟩ := pp
          obtain ⟨rfl, ex⟩ := y
          have ex2 : x = .int (j : Int) := ex.trans (congrArg V.int (Int.zero_add _))
          subst ex2
          have hc : g[j]? = some g[j] := List.getElem?_eq_getElem hlt2
          generalize g[j] = c at hc
          have hcL := hgL g hgm c (List.mem_of_getElem? hc)
          have hu : us[j]? = some (us[j]'(by omega)) := List.getElem?_eq_getElem (by omega)
          generalize (us[j]'(by omega)) = u at hu
          have hw : ws[j]? = some (ws[j]'(by omega)) := List.getElem?_eq_getElem (by omega)
          generalize (ws[j]'(by omega)) = v at hw
          have huw := hus' u (List.mem_of_getElem? hu)
          have hvw := hws v (List.mem_of_getElem? hw)
          have huV : (txV us)[j]? = some (tv u) := by rw [List.getElem?_map, hu]; rfl
          have hwV : (txV ws)[j]? = some (tv v) := by rw [List.getElem?_map, hw]; rfl
          obtain ⟨xs1, hx1', lx1⟩ := u1.list
          obtain ⟨xs2, hx2', lx2⟩ := u2.list
          have lq1 : q1.length ≤ 3 := by
            have := congrArg List.length kq1
            unfold keysOf at this
            rw [List.length_map, List.length_take] at this
            omega
          have lq2 : q2.length ≤ 3 := by
            have := congrArg List.length kq2
            unfold keysOf at this
            rw [List.length_map, List.length_take] at this
            omega
          refine ⟨_, rfl, .inl ⟨rfl, _, lst_of hx1'⟩, _, rfl, _, rfl, S g, _, c, rfl, rfl, small (by rw [S_len]; omega), S_atI (i := j) rfl hc, _, rfl, _, rfl, U, _, _, _, rfl, rfl, lst_of hU14, at_of rfl huV, by show 2 ≤ sizeLine; decide, fun t nt => ?_⟩
          have n1' : H o1 = none := n10
          have tp : t ≠ p := pe14.ne nt
          have to1 : t ≠ o1 := fun z => by subst z; rw [hx1'] at nt; cases nt
          have to2 : t ≠ o2 := fun z => by subst z; rw [hx2'] at nt; cases nt
          have tG : t ≠ G := fun z => by subst z; rw [hG14] at nt; cases nt
          have tU : t ≠ U := fun z => by subst z; rw [hU14] at nt; cases nt
          have tW : t ≠ W := fun z => by subst z; rw [hW14] at nt; cases nt
          have ht0 := none_of sb14 tp nt
          refine ⟨o1, _, _, rfl, rfl, by rw [upd_ne to1.symm]; exact hx1', small' (by rw [lx1, List.length_append]; omega), ?_⟩
          have v1 : TupsAt (upd (upd H14 t (.tup [tv [c], tv u])) o1 (.lst (xs1 ++ [.ref t]))) o1 ((r1 ++ q1) ++ [(c, u)]) := TupsAt.snoc (u1.same (same_new nt)) (by rw [upd_ne to1.symm]; exact hx1') upd_same
          have v2 : TupsAt (upd (upd H14 t (.tup [tv [c], tv u])) o1 (.lst (xs1 ++ [.ref t]))) o2 (r2 ++ q2) := TupsAt.other (u2.same (same_new nt)) o21 (xs := xs1) (by rw [upd_ne to1.symm]; exact hx1')
          have sbA : SameB p H (upd (upd H14 t (.tup [tv [c], tv u])) o1 (.lst (xs1 ++ [.ref t]))) := sameB_mut (sameB_mut sb14 ht0) n10
          have peA : PenAt (upd (upd H14 t (.tup [tv [c], tv u])) o1 (.lst (xs1 ++ [.ref t]))) p (m + 20 + 12 * (i + 1)) := (pe14.upd tp).upd o1p
          have hGA : (upd (upd H14 t (.tup [tv [c], tv u])) o1 (.lst (xs1 ++ [.ref t]))) G = some (.lst (txV gs)) := by rw [upd_ne o1G.symm, upd_ne tG.symm]; exact hG14
          have hUA : (upd (upd H14 t (.tup [tv [c], tv u])) o1 (.lst (xs1 ++ [.ref t]))) U = some (.lst (txV us)) := by rw [upd_ne Uo1, upd_ne tU.symm]; exact hU14
          have hWA : (upd (upd H14 t (.tup [tv [c], tv u])) o1 (.lst (xs1 ++ [.ref t]))) W = some (.lst (txV ws)) := by rw [upd_ne Wo1, upd_ne tW.symm]; exact hW14
          generalize (upd (upd H14 t (.tup [tv [c], tv u])) o1 (.lst (xs1 ++ [.ref t]))) = HA at v1 v2 sbA peA hGA hUA hWA
          obtain ⟨xs3, hx3, lx3⟩ := v2.list
          obtain ⟨xs4, hx4, lx4⟩ := v1.list
          refine ⟨_, rfl, .inl ⟨rfl, _, lst_of hx3⟩, _, rfl, _, rfl, S g, _, c, rfl, rfl, small (by rw [S_len]; omega), S_atI (i := j) rfl hc, _, rfl, _, rfl, W, _, _, _, rfl, rfl, lst_of hWA, at_of rfl hwV, by show 2 ≤ sizeLine; decide, fun t2 nt2 => ?_⟩
          have t2p : t2 ≠ p := peA.ne nt2
          have t2o2 : t2 ≠ o2 := fun z => by subst z; rw [hx3] at nt2; cases nt2
          have t2G : t2 ≠ G := fun z => by subst z; rw [hGA] at nt2; cases nt2
          have t2U : t2 ≠ U := fun z => by subst z; rw [hUA] at nt2; cases nt2
          have t2W : t2 ≠ W := fun z => by subst z; rw [hWA] at nt2; cases nt2
          have ht20 := none_of sbA t2p nt2
          refine ⟨o2, _, _, rfl, rfl, by rw [upd_ne t2o2.symm]; exact hx3, small' (by rw [lx3, List.length_append]; omega), ?_⟩
          refine ⟨W, ws, q1 ++ [(c, u)], q2 ++ [(c, v)], _, _, rfl, sameB_mut (sameB_mut sbA ht20) n20, (peA.upd t2p).upd o2p, ?_, ?_, ?_, Wo1, Wo2, lW, hws, ?_, ?_, ?_, ?_, ?_, ?_⟩
          · rw [upd_ne o2G.symm, upd_ne t2G.symm]; exact hGA
          · rw [upd_ne Uo2, upd_ne t2U.symm]; exact hUA
          · rw [upd_ne Wo2, upd_ne t2W.symm]; exact hWA
          · rw [← List.append_assoc]
            exact TupsAt.other (v1.same (same_new nt2)) o21.symm (xs := xs3) (by rw [upd_ne t2o2.symm]; exact hx3)
          · rw [← List.append_assoc]
            exact TupsAt.snoc (v2.same (same_new nt2)) (by rw [upd_ne t2o2.symm]; exact hx3) upd_same
          · rw [keysOf_app, kq1, take_snoc hc]; rfl
          · rw [keysOf_app, kq2, take_snoc hc]; rfl
          · exact wq1.app fun r hr => by rw [List.mem_singleton.mp hr]; exact huw
          · exact wq2.app fun r hr => by rw [List.mem_singleton.mp hr]; exact hvw
        · obtain ⟨W, ws, q1, q2, y12, y13, rfl, sb14, pe14, hG14, hU14, hW14, Wo1, Wo2, lW, hws, u1, u2, kq1, kq2, wq1, wq2⟩ := pp
          rw [List.take_length] at kq1 kq2
          have ht : (gs.take (i + 1)).flatten = (gs.take i).flatten ++ g := by
            rw [List.take_add_one, hg, List.flatten_append]
            show _ ++ (g ++ []) = _
            rw [List.append_nil]
          exact ⟨r1 ++ q1, r2 ++ q2, _, _, _, _, _, _, _, _, _, rfl, sb14, pe14, hG14, u1, u2, by rw [keysOf_app, k1, kq1, ht], by rw [keysOf_app, k2, kq2, ht], w1.app wq1, w2.app wq2⟩
    · obtain ⟨r1, r2, y3, y4, y5, y8, y9, y10, y11, y12, y13, rfl, sb7, pe7, hG7, t1, t2, k1, k2, w1, w2⟩ := pp
      rw [List.take_of_length_le (by rw [List.length_map]; exact Nat.le_refl _), hL] at k1 k2
      refine ⟨_, rfl, _, rfl, _, rfl, p, 5, _, rfl, pe7, by rw [List.length_map]; omega, by decide, by decide, fun H9 v9 sb9 pe9 h90 h91 => ?_⟩
      obtain ⟨k, rfl⟩ : ∃ k : Nat, v9 = (k : Int) := ⟨v9.toNat, by omega⟩
      refine ⟨p, G, gs, _, k, rfl, pe9, by rw [List.length_map]; omega, Gp, lst_of (sb9 _ _ Gp hG7), g0, by omega, g100, by omega, fun H10 ts sb10 pe10 tl tm => ?_⟩
      obtain ⟨bl, bm⟩ := txt ts k tl tm
      generalize ts.flatten = F at bl bm
      have sbA := (sb7.trans sb9).trans sb10
      have t1' := (t1.sameB (sb9.trans sb10) o1p pe7)
      have t2' := (t2.sameB (sb9.trans sb10) o2p pe7)
      have hGA := sb10 _ _ Gp (sb9 _ _ Gp hG7)
      have raw1 : RawOk r1 L := ⟨k1, ndG, g8, azG, w1⟩
      have raw2 : RawOk r2 L := ⟨k2, ndG, g8, azG, w2⟩
      obtain ⟨xs1, hx1, _⟩ := t1'.list
      refine ⟨_, rfl, _, rfl, o1, xs1, keyH H10, rfl, lst_of hx1, sort_in t1' hx1, fun ys l1 pw1 pm1 nl1 => ⟨l1, ys, rfl, .inl ⟨lst_of upd_same, fun T1 nT1 => ?_⟩⟩⟩
      obtain ⟨q1, s1, a1, pm1, pw1⟩ := sort_out (K := K) t1' hx1 (by rw [k1]; exact ndG) pw1 pm1 nl1 nT1
      generalize upd (upd H10 l1 (.lst ys)) T1 (.tup ys) = H11 at s1 a1
      refine ⟨by show 2 ≤ sizeLine; decide, fun b1 nb1 => ?_⟩
      have s1' := s1.trans (same_new (o := .tup [tv F, .ref T1]) nb1)
      have t2'' := t2'.same s1'
      obtain ⟨xs2, hx2, _⟩ := t2''.list
      refine ⟨_, rfl, _, rfl, o2, xs2, keyH _, rfl, lst_of hx2, sort_in t2'' hx2, fun ys l2 pw2 pm2 nl2 => ⟨l2, ys, rfl, .inl ⟨lst_of upd_same, fun T2 nT2 => ?_⟩⟩⟩
      obtain ⟨q2, s2, a2, pm2, pw2⟩ := sort_out (K := K) t2'' hx2 (by rw [k2]; exact ndG) pw2 pm2 nl2 nT2
      generalize upd (upd (upd H11 b1 (.tup [tv F, .ref T1])) l2 (.lst ys)) T2 (.tup ys) = H12 at s2 a2
      refine ⟨by show 2 ≤ sizeLine; decide, fun b2 nb2 => ?_⟩
      have s2' := s2.trans (same_new (o := .tup [tv F, .ref T2]) nb2)
      refine ⟨_, rfl, by show 3 ≤ sizeLine; decide, fun R nR => ?_⟩
      have s3' := same_new (o := .tup [.ref b1, .ref b2, .ref G]) nR
      refine q _ _ (sbA.trans (sameB_of ((s1'.trans s2').trans s3'))) ?_
      have e12 : keysOf q2 = keysOf q1 := by
        refine sorted_same pw2 pw1 ?_
        have e1 : (keysOf q1).Perm L := by rw [← k1]; exact pm1.map (fun r : Nat × Tx => r.1)
        have e2 : (keysOf q2).Perm L := by rw [← k2]; exact pm2.map (fun r : Nat × Tx => r.1)
        exact e2.trans e1.symm
      have pk1 : (keysOf q1).Perm L := by rw [← k1]; exact pm1.map (fun r : Nat × Tx => r.1)
      refine ⟨R, G, .ref b1, .ref b2, F, q1, q2, rfl, upd_same, ⟨b1, T1, rfl, tup_of ((s2'.trans s3') _ _ upd_same), (a1.same (same_new nb1)).same (s2'.trans s3')⟩, ⟨b2, T2, rfl, tup_of (s3' _ _ upd_same), (a2.same (same_new nb2)).same s3'⟩, raw1.ok pm1, raw2.ok pm2, e12, by omega, fun c hc => pk1.mem_iff.mpr (bm c hc), ?_⟩
      have := pk1.length_eq
      unfold keysOf at this
      rw [List.length_map] at this
      omega
end
end Lg
/-! _law_balanced, _law_long_pair walked -/
namespace Lg
open PySem PySem.Spec PyProof.Rows L2
theorem cutV_mid (xs : List V) (a b : Nat) : cutV xs (some (a : Int)) (some (b : Int)) = (xs.drop a).take (b - a) := by
  unfold cutV
  rw [HT.sIx_nat, HT.sIx_nat]
  by_cases h : a ≤ xs.length
  · rw [Nat.min_eq_left h]
    by_cases h2 : b ≤ xs.length
    · rw [Nat.min_eq_left h2]
    · rw [Nat.min_eq_right (by omega : xs.length ≤ b)]
      rw [List.take_of_length_le (by rw [List.length_drop]; omega), List.take_of_length_le (by rw [List.length_drop]; omega)]
  · rw [Nat.min_eq_right (by omega : xs.length ≤ a), List.drop_of_length_le (Nat.le_refl _), List.drop_of_length_le (by omega : xs.length ≤ a)]
    simp
theorem in_app {L a b : List Nat} (h : ∀ c ∈ a, c ∈ L) (g : ∀ c ∈ b, c ∈ L) : ∀ c ∈ a ++ b, c ∈ L := fun c hc => by
  rcases List.mem_append.mp hc with z | z
  · exact h c z
  · exact g c z
theorem in_rep {L : List Nat} {x : Nat} {n : Nat} (h : x ∈ L) : ∀ c ∈ List.replicate n x, c ∈ L := fun c hc => by
  rw [List.eq_of_mem_replicate hc]
  exact h
theorem in_one {L : List Nat} {x : Nat} (h : x ∈ L) : ∀ c ∈ [x], c ∈ L := fun c hc => by
  rw [List.mem_singleton.mp hc]
  exact h
theorem rep_str (c : Nat) (k : Nat) : V.str ⟨(List.replicate ((k : Int)).toNat c).toArray⟩ = tv (List.replicate k c) := by
  rw [Int.toNat_natCast]
theorem sz2 {a b : Tx} (h : a.length + b.length ≤ 100) : (S a).length + (S b).length ≤ sizeLine := small (by rw [S_len, S_len]; omega)
section
variable {P : Program} {w : World} {K : PySem.W.Frag} {mg : Str → Option Value} {base : Heap}
def spBal (K : PySem.W.Frag) : Sp := fun vs H Q _ => ∃ (p a : Addr) (as : List Tx) (L : List Nat) (m : Nat) (most : Int), vs = [.ref p, .ref a, .int most] ∧ PenAt H p m ∧ m ≤ 1000 ∧ a ≠ p ∧ SqL K H a (txV as) ∧ 0 < as.length ∧ as.length ≤ 100 ∧ (∀ t ∈ as, t.length ≤ 100) ∧ (∀ t ∈ as, ∀ c ∈ t, c ∈ L) ∧ 0 ≤ most ∧ most ≤ 100 ∧
  ∀ H' (t : Tx), SameB p H H' → PenAt H' p (m + 8) → (t.length : Int) ≤ most → (∀ c ∈ t, c ∈ L) → Q (tv t) H'
theorem c_law_balanced (T : Facts K mg) : C8.Cal P w K mg base 2 "_law_balanced" (spBal K) [] := by
  refine cal T.d_law_balanced sc_law_balanced (fun vs H Q E h => ?_) (fun f cdv A outer s H vs Q E hr h => ?_)
  · obtain ⟨p, a, as, L, m, most, rfl, _⟩ := h
    rfl
  · obtain ⟨p, a, as, L, m, most, rfl, hp, hm, ap, ha, a0, a1, a2, a3, m0, m1, q⟩ := h
    refine ⟨_, (pss_cons (ps_set (i := 3) sc_law_balanced.nd rfl (Or.inl rfl) pe_str)
      (pss_cons (ps_for PassesOwn.never rfl (pi_range1 rfl T.b_range (pa_cons (C8.pe_c (c_law_take T) hr (by decide) rfl (pa_cons (pv 0) (pa_cons pe_int pa_nil))) pa_nil)) (pg_name (i := 4) sc_law_balanced.nd rfl (Or.inl rfl))
      (pss_cons (ps_set (i := 5) sc_law_balanced.nd rfl (Or.inl rfl) (pe_ix (r := rIxL K) ix_list (pv 1) (C8.pe_c (c_law_take T) hr (by decide) rfl (pa_cons (pv 0) (pa_cons (pe_callB call_len_seq (by rfl) T.b_len PySem.boot_len (pa_cons (pv 1) pa_nil)) pa_nil))) (fun _ _ => rfl)))
        (pss_one (ps_if (pt_cmpR op_le (pe_op op_add (pe_callB call_len_str (by rfl) T.b_len PySem.boot_len (pa_cons (pv 3) pa_nil)) (pe_callB call_len_str (by rfl) T.b_len PySem.boot_len (pa_cons (pv 5) pa_nil))) (pv 2) (nomark _))
        (pss_one (ps_set (i := 3) sc_law_balanced.nd rfl (Or.inl rfl) (pe_op op_add_str (pv 3) (pv 5))))
        pss_nil))))
      (pss_one (ps_ret (pv 3))))), ?_⟩
    refine ⟨_, rfl, p, 7, m, rfl, hp, by omega, by decide, by decide, fun H1 v sb1 pe1 h0 h1 => ?_⟩
    obtain ⟨k, rfl⟩ : ∃ k : Nat, v = (k : Int) := ⟨v.toNat, by omega⟩
    refine ⟨_, rfl, by omega, by omega, ?_⟩
    rw [Int.toNat_natCast]
    refine for_it walk_range (fun i σ H' => ∃ (t : Tx) (y4 y5 : Option V), σ = [some (.ref p), some (.ref a), some (.int most), some (tv t), y4, y5] ∧ SameB p H H' ∧ PenAt H' p (m + 1 + i) ∧ (t.length : Int) ≤ most ∧ (∀ c ∈ t, c ∈ L))
      ⟨[], _, _, rfl, sb1, pe1, m0, fun _ h => by simp at h⟩ (fun _ _ _ _ _ => trivial) (fun i x σ H' H'' hlt pp y => ?_) (fun σ H' pp => ?_)
    · obtain ⟨t, y4, y5, rfl, sb, pe, tl, tm⟩ := pp
      obtain ⟨rfl, ex⟩ := y
      refine ⟨_, rfl, _, rfl, _, rfl, a, _, rfl, .inl (sb.seq ap ha), p, _, m + 1 + i, rfl, pe, by omega, by rw [List.length_map]; omega, by rw [List.length_map]; omega, fun H3 v sb3 pe3 g0 g1 => ?_⟩
      rw [List.length_map] at g1
      obtain ⟨j, rfl⟩ : ∃ j : Nat, v = (j : Int) := ⟨v.toNat, by omega⟩
      have hc : as[j]? = some (as[j]'(by omega)) := List.getElem?_eq_getElem (by omega)
      generalize (as[j]'(by omega)) = u at hc
      have hum := List.mem_of_getElem? hc
      have hul := a2 u hum
      refine ⟨a, _, _, _, rfl, rfl, (sb.trans sb3).seq ap ha, at_of rfl (show (txV as)[j]? = some (tv u) by rw [List.getElem?_map, hc]; rfl), ?_⟩
      refine ⟨_, rfl, S t, rfl, small (by rw [S_len]; omega), _, rfl, S u, rfl, small (by rw [S_len]; omega), _, _, rfl, rfl, _, rfl, _, _, rfl, rfl, _, rfl, ite2 (fun e => ?_) (fun e => ?_)⟩
      · rw [S_len, S_len] at e
        have e2 := of_decide_eq_true e
        refine ⟨_, rfl, _, rfl, _, _, rfl, rfl, small (by rw [S_len, S_len]; omega), ?_⟩
        rw [append_str]
        refine ⟨t ++ u, _, _, rfl, sb.trans sb3, pe3, by rw [List.length_append]; omega, fun c hc => ?_⟩
        rcases List.mem_append.mp hc with h | h
        · exact tm c h
        · exact a3 u hum c h
      · exact ⟨t, _, _, rfl, sb.trans sb3, pe3, tl, tm⟩
    · obtain ⟨t, y4, y5, rfl, sb, pe, tl, tm⟩ := pp
      exact ⟨_, rfl, q H' t sb (pe.mono (by omega)) tl tm⟩
def spLong (K : PySem.W.Frag) : Sp := fun vs H Q _ => ∃ (p : Addr) (m : Nat), vs = [.ref p] ∧ PenAt H p m ∧ m ≤ 100 ∧ ∀ H' v, SameB p H H' → PairRes K H' v → Q v H'
set_option maxHeartbeats 8000000 in
theorem c_law_long_pair (T : Facts K mg) : C8.Cal P w K mg base 3 "_law_long_pair" (spLong K) [] := by
  refine cal T.d_law_long_pair sc_law_long_pair (fun vs H Q E h => ?_) (fun f cdv A outer s H vs Q E hr h => ?_)
  · obtain ⟨p, m, rfl, _⟩ := h
    rfl
  · obtain ⟨pn, m, rfl, hp, hm, q⟩ := h
    refine ⟨_, (pss_cons (ps_set (i := 1) sc_law_long_pair.nd rfl (Or.inl rfl) (C8.pe_c (c_law_signs T) hr (by decide) rfl (pa_cons (pv 0) (pa_cons pe_int pa_nil))))
      (pss_cons (ps_asg (pe_slice (r := rSlL K) sl_list (pv 1) po_none (po_some pe_int)) (pg_unl rfl (pgs_cons (pg_name (i := 2) sc_law_long_pair.nd rfl (Or.inl rfl)) (pgs_cons (pg_name (i := 3) sc_law_long_pair.nd rfl (Or.inl rfl)) (pgs_cons (pg_name (i := 4) sc_law_long_pair.nd rfl (Or.inl rfl)) pgs_nil)))))
      (pss_cons (ps_set (i := 5) sc_law_long_pair.nd rfl (Or.inl rfl) (pe_slice (r := rSlL K) sl_list (pv 1) (po_some pe_int) (po_some (pe_op op_add pe_int (C8.pe_c (c_law_take T) hr (by decide) rfl (pa_cons (pv 0) (pa_cons pe_int pa_nil)))))))
      (pss_cons (ps_set (i := 6) sc_law_long_pair.nd rfl (Or.inl rfl) (pe_lst (pa_cons (pe_op op_add_str (pv 2) (pv 3)) (pa_cons (pe_op op_add_str (pv 3) (pv 2)) (pa_cons (pe_op op_add_str (pe_op op_repS (pv 2) pe_int) (pe_op op_repS (pv 3) pe_int)) (pa_cons (pe_op op_add_str (pe_op op_repS (pv 3) pe_int) (pe_op op_repS (pv 2) pe_int)) (pa_cons (pe_op op_add_str (pe_op op_repS (pv 2) pe_int) (pe_op op_repS (pv 3) pe_int)) (pa_cons (pe_op op_add_str (pe_op op_repS (pv 3) pe_int) (pe_op op_repS (pv 2) pe_int)) pa_nil))))))))
      (pss_cons (ps_set (i := 6) sc_law_long_pair.nd rfl (Or.inl rfl) (pe_op op_cat (pe_op op_cat (pv 6) (pe_lst (pa_cons (pe_op op_add_str (pe_op op_add_str (pe_op op_add_str (pe_op op_add_str (pe_op op_add_str (pv 2) (pv 2)) (pv 3)) (pv 2)) (pv 3)) (pv 3)) (pa_cons (pe_op op_add_str (pe_op op_add_str (pe_op op_add_str (pe_op op_add_str (pe_op op_add_str (pv 3) (pv 3)) (pv 2)) (pv 3)) (pv 2)) (pv 2)) (pa_cons (pv 4) pa_nil))))) (pv 5)))
      (pss_cons (ps_set (i := 7) sc_law_long_pair.nd rfl (Or.inl rfl) (C8.pe_c (c_law_take T) hr (by decide) rfl (pa_cons (pv 0) (pa_cons pe_int pa_nil))))
      (pss_cons (ps_set (i := 8) sc_law_long_pair.nd rfl (Or.inl rfl) (pe_op op_modN (pe_op op_add (pe_op op_add (pv 7) pe_int) (C8.pe_c (c_law_take T) hr (by decide) rfl (pa_cons (pv 0) (pa_cons pe_int pa_nil)))) pe_int))
      (pss_cons (ps_set (i := 9) sc_law_long_pair.nd rfl (Or.inl rfl) (pe_lst (pa_cons (pe_tup (pa_cons (pv 2) (pa_cons (pe_op op_repS (pv 4) (pv 7)) pa_nil))) (pa_cons (pe_tup (pa_cons (pv 3) (pa_cons (pe_op op_repS (pv 4) (pv 8)) pa_nil))) pa_nil))))
      (pss_cons (ps_set (i := 10) sc_law_long_pair.nd rfl (Or.inl rfl) (pe_lst (pa_cons (pe_tup (pa_cons (pv 2) (pa_cons (pe_op op_repS (pv 4) (pv 8)) pa_nil))) (pa_cons (pe_tup (pa_cons (pv 3) (pa_cons (pe_op op_repS (pv 4) (pv 7)) pa_nil))) pa_nil))))
      (pss_cons (ps_for PassesOwn.never rfl (pi_list (pe_op op_cat (pe_lst (pa_cons (pv 4) pa_nil)) (pv 5))) (pg_name (i := 11) sc_law_long_pair.nd rfl (Or.inl rfl))
      (pss_cons (ps_set (i := 12) sc_law_long_pair.nd rfl (Or.inl rfl) (C8.pe_c (c_law_balanced T) hr (by decide) rfl (pa_cons (pv 0) (pa_cons (pv 6) (pa_cons pe_int pa_nil)))))
        (pss_cons (ps_expr (pe_bm PySem.F.plainAttrs_list PySem.F.slot_list_append PySem.F.type_list_append mt_append (pv 9) (pa_cons (pe_tup (pa_cons (pv 11) (pa_cons (pv 12) pa_nil))) pa_nil)))
        (pss_one (ps_expr (pe_bm PySem.F.plainAttrs_list PySem.F.slot_list_append PySem.F.type_list_append mt_append (pv 10) (pa_cons (pe_tup (pa_cons (pv 11) (pa_cons (pv 12) pa_nil))) pa_nil)))))))
      (pss_cons (ps_set (i := 13) sc_law_long_pair.nd rfl (Or.inl rfl) (C8.pe_c (c_law_take T) hr (by decide) rfl (pa_cons (pv 0) (pa_cons pe_int pa_nil))))
      (pss_cons (ps_set (i := 14) sc_law_long_pair.nd rfl (Or.inl rfl) (pe_op op_add_str (pe_op op_repS (pv 2) (pv 13)) (pe_op op_repS (pv 3) (pv 13))))
      (pss_cons (ps_set (i := 14) sc_law_long_pair.nd rfl (Or.inl rfl) (pe_op op_add_str (pv 14) (C8.pe_c (c_law_balanced T) hr (by decide) rfl (pa_cons (pv 0) (pa_cons (pv 6) (pa_cons (pe_op op_sub pe_int (pe_callB call_len_str (by rfl) T.b_len PySem.boot_len (pa_cons (pv 14) pa_nil))) pa_nil))))))
      (pss_one (ps_ret (pe_tup (pa_cons (pe_tup (pa_cons (pv 14) (pa_cons (pe_callTy call_tuple_of (by rfl) T.b_tuple (by decide +kernel) (pa_cons (pe_callB cr_sortedS2 (by rfl) T.b_sorted (by decide +kernel) (pa_cons (pv 9) pa_nil)) pa_nil)) pa_nil))) (pa_cons (pe_tup (pa_cons (pv 14) (pa_cons (pe_callTy call_tuple_of (by rfl) T.b_tuple (by decide +kernel) (pa_cons (pe_callB cr_sortedS2 (by rfl) T.b_sorted (by decide +kernel) (pa_cons (pv 10) pa_nil)) pa_nil)) pa_nil))) (pa_cons (pv 6) pa_nil))))))))))))))))))), ?_⟩
    refine ⟨_, rfl, pn, m, rfl, hp, by omega, fun H1 sA ls sb1 pe1 sAp nsA hsA hl8 nd az => ?_⟩
    obtain ⟨p, r1, e1⟩ : ∃ p r, ls = p :: r := by
      match ls, hl8 with
      | a :: l, _ => exact ⟨a, l, rfl⟩
    obtain ⟨q0, r2, e2⟩ : ∃ p r, r1 = p :: r := by
      subst e1
      match r1, hl8 with
      | a :: l, _ => exact ⟨a, l, rfl⟩
    obtain ⟨x, r3, e3⟩ : ∃ p r, r2 = p :: r := by
      subst e1 e2
      match r2, hl8 with
      | a :: l, _ => exact ⟨a, l, rfl⟩
    subst e1 e2 e3
    refine ⟨_, rfl, 3, rfl, sA, _, rfl, lst_of hsA, fun a na => ?_⟩
    have hcut0 : cutV (lettV (p :: q0 :: x :: r3)) none (some 3) = (lettV (p :: q0 :: x :: r3)).take 3 := by
      rw [show (some (3 : Int)) = some ((3 : Nat) : Int) from rfl, cutV_to]
    rw [hcut0]
    have ap : a ≠ pn := pe1.ne na
    have asA : a ≠ sA := fun z => by subst z; rw [hsA] at na; cases na
    have sb2 := sb1.trans (sameB_of (same_new (o := .lst ((lettV (p :: q0 :: x :: r3)).take 3)) na))
    refine ⟨a, _, rfl, lst_of upd_same, rfl, tv [p], [tv [q0], tv [x]], rfl, tv [q0], [tv [x]], rfl, tv [x], [], rfl, rfl, ?_⟩
    have pe2 := pe1.upd (o := .lst ((lettV (p :: q0 :: x :: r3)).take 3)) ap
    have hsA2 : upd H1 a (.lst ((lettV (p :: q0 :: x :: r3)).take 3)) sA = some (.lst (lettV (p :: q0 :: x :: r3))) := by rw [upd_ne asA.symm]; exact hsA
    generalize upd H1 a (.lst ((lettV (p :: q0 :: x :: r3)).take 3)) = H2 at sb2 pe2 hsA2
    refine ⟨_, rfl, _, rfl, _, rfl, pn, 6, _, rfl, pe2, by omega, by decide, by decide, fun H3 v sb3 pe3 h0 h1 => ?_⟩
    obtain ⟨k, hk⟩ : ∃ k : Nat, (3 : Int) + v = (k : Int) := ⟨(3 + v).toNat, by omega⟩
    have k3 : 3 ≤ k := by omega
    have k8 : k ≤ 8 := by omega
    have hsA3 := sb3 _ _ sAp hsA2
    refine ⟨_, _, rfl, rfl, _, congrArg V.int hk, sA, _, rfl, lst_of hsA3, fun mo nmo => ?_⟩
    have sb03 := sb2.trans sb3
    have mop : mo ≠ pn := pe3.ne nmo
    have hcut : cutV (lettV (p :: q0 :: x :: r3)) (some 3) (some ((k : Nat) : Int)) = lettV (r3.take (k - 3)) := by
      rw [show (some (3 : Int)) = some ((3 : Nat) : Int) from rfl, cutV_mid, lettV, lettV, List.map_take]
      rfl
    rw [hcut]
    have ndL : (p :: q0 :: x :: r3.take (k - 3)).Nodup := nd.sublist (by
      refine List.Sublist.cons₂ _ (List.Sublist.cons₂ _ (List.Sublist.cons₂ _ (List.take_sublist _ _))))
    have azL : ∀ c ∈ (p :: q0 :: x :: r3.take (k - 3)), 97 ≤ c ∧ c ≤ 122 := fun c hc => az c (by
      rcases List.mem_cons.mp hc with h | h
      · rw [h]; exact List.mem_cons_self
      refine List.mem_cons_of_mem _ ?_
      rcases List.mem_cons.mp h with h | h
      · rw [h]; exact List.mem_cons_self
      refine List.mem_cons_of_mem _ ?_
      rcases List.mem_cons.mp h with h | h
      · rw [h]; exact List.mem_cons_self
      exact List.mem_cons_of_mem _ (List.mem_of_mem_take h))
    have lr3 : r3.length = 5 := by
      have : r3.length + 1 + 1 + 1 = 8 := hl8
      omega
    have lmore : (r3.take (k - 3)).length ≤ 5 := by rw [List.length_take]; omega
    generalize r3.take (k - 3) = more at ndL azL lmore
    have sb4 := sb03.trans (sameB_of (same_new (o := .lst (lettV more)) nmo))
    have pe4 := pe3.upd (o := .lst (lettV more)) mop
    have hmo : upd H3 mo (.lst (lettV more)) mo = some (.lst (lettV more)) := upd_same
    generalize upd H3 mo (.lst (lettV more)) = H4 at sb4 pe4 hmo
    -- the atoms
    refine ⟨_, rfl, _, rfl, _, _, rfl, rfl, sz2 (by simp), ?_⟩
    rw [append_str]
    refine ⟨_, rfl, _, rfl, _, _, rfl, rfl, sz2 (by simp), ?_⟩
    rw [append_str]
    refine ⟨_, rfl, _, 2, rfl, rfl, by decide, by decide, _, rfl, _, 2, rfl, rfl, by decide, by decide, _, _, rfl, rfl, sz2 (by simp), ?_⟩
    rw [append_str]
    refine ⟨_, rfl, _, 2, rfl, rfl, by decide, by decide, _, rfl, _, 2, rfl, rfl, by decide, by decide, _, _, rfl, rfl, sz2 (by simp), ?_⟩
    rw [append_str]
    refine ⟨_, rfl, _, 3, rfl, rfl, by decide, by decide, _, rfl, _, 3, rfl, rfl, by decide, by decide, _, _, rfl, rfl, sz2 (by simp), ?_⟩
    rw [append_str]
    refine ⟨_, rfl, _, 3, rfl, rfl, by decide, by decide, _, rfl, _, 3, rfl, rfl, by decide, by decide, _, _, rfl, rfl, sz2 (by simp), ?_⟩
    rw [append_str]
    refine ⟨by show 6 ≤ sizeLine; decide, fun a1 na1 => ?_⟩
    have a1p : a1 ≠ pn := pe4.ne na1
    obtain ⟨L, hL⟩ : ∃ L, p :: q0 :: x :: more = L := ⟨_, rfl⟩
    have mp : p ∈ L := by rw [← hL]; exact List.mem_cons_self
    have mq : q0 ∈ L := by rw [← hL]; exact List.mem_cons_of_mem _ List.mem_cons_self
    have mx : x ∈ L := by rw [← hL]; exact List.mem_cons_of_mem _ (List.mem_cons_of_mem _ List.mem_cons_self)
    have mm : ∀ c ∈ more, c ∈ L := fun c hc => by rw [← hL]; exact List.mem_cons_of_mem _ (List.mem_cons_of_mem _ (List.mem_cons_of_mem _ hc))
    have op' := in_one mp
    have oq' := in_one mq
    obtain ⟨as0, has0, las0⟩ : ∃ as0 : List Tx, as0 = [[p] ++ [q0], [q0] ++ [p], List.replicate 2 p ++ List.replicate 2 q0, List.replicate 2 q0 ++ List.replicate 2 p, List.replicate 3 p ++ List.replicate 3 q0, List.replicate 3 q0 ++ List.replicate 3 p] ∧ ∀ t ∈ as0, t.length ≤ 6 ∧ ∀ c ∈ t, c ∈ L := by
      refine ⟨_, rfl, fun t ht => ?_⟩
      simp only [List.mem_cons, List.not_mem_nil, or_false] at ht
      rcases ht with rfl | rfl | rfl | rfl | rfl | rfl
      · exact ⟨by simp, in_app op' oq'⟩
      · exact ⟨by simp, in_app oq' op'⟩
      · exact ⟨by simp, in_app (in_rep mp) (in_rep mq)⟩
      · exact ⟨by simp, in_app (in_rep mq) (in_rep mp)⟩
      · exact ⟨by simp, in_app (in_rep mp) (in_rep mq)⟩
      · exact ⟨by simp, in_app (in_rep mq) (in_rep mp)⟩
    obtain ⟨as1, has1, las1⟩ : ∃ as1 : List Tx, as1 = [[p] ++ [p] ++ [q0] ++ [p] ++ [q0] ++ [q0], [q0] ++ [q0] ++ [p] ++ [q0] ++ [p] ++ [p], [x]] ∧ ∀ t ∈ as1, t.length ≤ 6 ∧ ∀ c ∈ t, c ∈ L := by
      refine ⟨_, rfl, fun t ht => ?_⟩
      simp only [List.mem_cons, List.not_mem_nil, or_false] at ht
      rcases ht with rfl | rfl | rfl
      · exact ⟨by simp, in_app (in_app (in_app (in_app (in_app op' op') oq') op') oq') oq'⟩
      · exact ⟨by simp, in_app (in_app (in_app (in_app (in_app oq' oq') op') oq') op') op'⟩
      · exact ⟨by simp, in_one mx⟩
    have l0 : as0.length = 6 := by rw [has0]; rfl
    have l1 : as1.length = 3 := by rw [has1]; rfl
    have h5 : (upd H4 a1 (.lst (txV as0))) a1 = some (.lst (txV as0)) := upd_same
    have sb5 := sb4.trans (sameB_of (same_new (o := .lst (txV as0)) na1))
    have pe5 := pe4.upd (o := .lst (txV as0)) a1p
    have hmo5 := same_new (o := .lst (txV as0)) na1 _ _ hmo
    have ev0 : txV as0 = [tv ([p] ++ [q0]), tv ([q0] ++ [p]), tv (List.replicate 2 p ++ List.replicate 2 q0), tv (List.replicate 2 q0 ++ List.replicate 2 p), tv (List.replicate 3 p ++ List.replicate 3 q0), tv (List.replicate 3 q0 ++ List.replicate 3 p)] := by rw [has0]; rfl
    have ev1 : txV as1 = [tv ([p] ++ [p] ++ [q0] ++ [p] ++ [q0] ++ [q0]), tv ([q0] ++ [q0] ++ [p] ++ [q0] ++ [p] ++ [p]), tv [x]] := by rw [has1]; rfl
    have ha5 : ∃ H5, H5 = upd H4 a1 (.lst (txV as0)) := ⟨_, rfl⟩
    obtain ⟨H5, ha5⟩ := ha5
    rw [← ha5] at h5 sb5 pe5 hmo5
    have hX : upd H4 a1 (.lst [tv ([p] ++ [q0]), tv ([q0] ++ [p]), tv (List.replicate 2 p ++ List.replicate 2 q0), tv (List.replicate 2 q0 ++ List.replicate 2 p), tv (List.replicate 3 p ++ List.replicate 3 q0), tv (List.replicate 3 q0 ++ List.replicate 3 p)]) = H5 := by
      rw [ha5, ev0]
    show gName 6 _ _ _ _
    refine (show ∀ Hz, Hz = H5 → gName 6 (V.ref a1) _ Hz _ from fun Hz hz => ?_) _ hX
    subst hz
    refine ⟨_, rfl, _, rfl, _, rfl, _, _, rfl, rfl, sz2 (by simp), ?_⟩
    rw [append_str]
    refine ⟨_, rfl, _, _, rfl, rfl, sz2 (by simp), ?_⟩
    rw [append_str]
    refine ⟨_, rfl, _, _, rfl, rfl, sz2 (by simp), ?_⟩
    rw [append_str]
    refine ⟨_, rfl, _, _, rfl, rfl, sz2 (by simp), ?_⟩
    rw [append_str]
    refine ⟨_, rfl, _, _, rfl, rfl, sz2 (by simp), ?_⟩
    rw [append_str]
    refine ⟨_, rfl, _, rfl, _, _, rfl, rfl, sz2 (by simp), ?_⟩
    rw [append_str]
    refine ⟨_, rfl, _, _, rfl, rfl, sz2 (by simp), ?_⟩
    rw [append_str]
    refine ⟨_, rfl, _, _, rfl, rfl, sz2 (by simp), ?_⟩
    rw [append_str]
    refine ⟨_, rfl, _, _, rfl, rfl, sz2 (by simp), ?_⟩
    rw [append_str]
    refine ⟨_, rfl, _, _, rfl, rfl, sz2 (by simp), ?_⟩
    rw [append_str]
    refine ⟨_, rfl, by show 3 ≤ sizeLine; decide, fun a2 na2 => ?_⟩
    have a2p : a2 ≠ pn := pe5.ne na2
    have h21 := same_new (o := .lst (txV as1)) na2 _ _ h5
    have h2m := same_new (o := .lst (txV as1)) na2 _ _ hmo5
    have sb6 := sb5.trans (sameB_of (same_new (o := .lst (txV as1)) na2))
    have pe6 := pe5.upd (o := .lst (txV as1)) a2p
    rw [← ev1]
    refine ⟨a1, a2, txV as0, txV as1, rfl, rfl, h21, upd_same, small (by rw [List.length_map, List.length_map]; omega), fun a3 na3 => ?_⟩
    have a3p : a3 ≠ pn := pe6.ne na3
    have h3m := same_new (o := .lst (txV as0 ++ txV as1)) na3 _ _ h2m
    have sb7 := sb6.trans (sameB_of (same_new (o := .lst (txV as0 ++ txV as1)) na3))
    have pe7 := pe6.upd (o := .lst (txV as0 ++ txV as1)) a3p
    refine ⟨_, rfl, a3, mo, txV as0 ++ txV as1, lettV more, rfl, rfl, upd_same, h3m, small (by rw [List.length_append, List.length_map, List.length_map, List.length_map]; omega), fun A nA => ?_⟩
    have Ap : A ≠ pn := pe7.ne nA
    have evF : txV as0 ++ txV as1 ++ lettV more = txV (as0 ++ as1 ++ more.map fun c => [c]) := by
      rw [lett_tx, txV, txV, txV, txV, List.map_append, List.map_append]
    rw [evF]
    have lF : (as0 ++ as1 ++ more.map fun c => [c]).length ≤ 14 ∧ 0 < (as0 ++ as1 ++ more.map fun c => [c]).length := by
      rw [List.length_append, List.length_append, List.length_map]
      omega
    have okF : ∀ t ∈ (as0 ++ as1 ++ more.map fun c => [c]), t.length ≤ 6 ∧ ∀ c ∈ t, c ∈ L := fun t ht => by
      rcases List.mem_append.mp ht with h | h
      · rcases List.mem_append.mp h with h | h
        · exact las0 t h
        · exact las1 t h
      · obtain ⟨c, hc, rfl⟩ := List.mem_map.mp h
        exact ⟨by show 1 ≤ 6; decide, in_one (mm c hc)⟩
    generalize (as0 ++ as1 ++ more.map fun c => [c]) = as at lF okF
    have sb8 := sb7.trans (sameB_of (same_new (o := .lst (txV as)) nA))
    have pe8 := pe7.upd (o := .lst (txV as)) Ap
    have hA8 : (upd (upd (upd Hz a2 (.lst (txV as1))) a3 (.lst (txV as0 ++ txV as1))) A (.lst (txV as))) A = some (.lst (txV as)) := upd_same
    have hm8 := same_new (o := .lst (txV as)) nA _ _ h3m
    generalize upd (upd (upd Hz a2 (.lst (txV as1))) a3 (.lst (txV as0 ++ txV as1))) A (.lst (txV as)) = H8 at sb8 pe8 hA8 hm8
    -- few and many
    refine ⟨_, rfl, pn, 4, _, rfl, pe8, by omega, by decide, by decide, fun H9 v9 sb9 pe9 h90 h91 => ?_⟩
    obtain ⟨few, rfl⟩ : ∃ k : Nat, v9 = (k : Int) := ⟨v9.toNat, by omega⟩
    refine ⟨_, rfl, _, _, rfl, rfl, _, rfl, pn, 3, _, rfl, pe9, by omega, by decide, by decide, fun H10 v10 sb10 pe10 h100 h101 => ⟨_, _, rfl, rfl, _, _, rfl, rfl, by show (4 : Int) ≠ 0; decide, ?_⟩⟩
    obtain ⟨many, hmany, many4⟩ : ∃ many : Nat, ((few : Int) + 1 + v10).fmod 4 = (many : Int) ∧ many < 4 := by
      obtain ⟨g1, g2⟩ := fmod_rng ((few : Int) + 1 + v10) (b := 4) (by decide)
      exact ⟨(((few : Int) + 1 + v10).fmod 4).toNat, by omega, by omega⟩
    rw [show ((fun (i j : Int) => V.int (i.fmod j)) ((few : Int) + 1 + v10) 4) = V.int (many : Int) from congrArg V.int hmany]
    have mop' : mo ≠ pn := mop
    have sbX := (sb8.trans sb9).trans sb10
    have hA10 := sb10 _ _ Ap (sb9 _ _ Ap hA8)
    have hm10 := sb10 _ _ mop (sb9 _ _ mop hm8)
    -- the first two rules of each
    have lR1 : (List.replicate few x).length ≤ 6 := by rw [List.length_replicate]; omega
    have lR2 : (List.replicate many x).length ≤ 6 := by rw [List.length_replicate]; omega
    have mR1 : ∀ c ∈ List.replicate few x, c ∈ L := in_rep mx
    have mR2 : ∀ c ∈ List.replicate many x, c ∈ L := in_rep mx
    have rs1 := rep_str x few
    have rs2 := rep_str x many
    generalize List.replicate few x = R1 at lR1 mR1 rs1
    generalize List.replicate many x = R2 at lR2 mR2 rs2
    refine ⟨_, rfl, _, rfl, _, rfl, x, few, rfl, rfl, by omega, by omega, by show 2 ≤ sizeLine; decide, fun t1 nt1 => ?_⟩
    rw [rs1]
    have t1p : t1 ≠ pn := pe10.ne nt1
    have u1 := same_new (o := .tup [tv [p], tv R1]) nt1
    refine ⟨_, rfl, _, rfl, _, rfl, x, many, rfl, rfl, by omega, by omega, by show 2 ≤ sizeLine; decide, fun t2 nt2 => ?_⟩
    rw [rs2]
    have u2 := same_new (o := .tup [tv [q0], tv R2]) nt2
    refine ⟨by show 2 ≤ sizeLine; decide, fun o1 no1 => ?_⟩
    have u3 := same_new (o := .lst [V.ref t1, V.ref t2]) no1
    have o1p : o1 ≠ pn := (pe10.same (u1.trans u2)).ne no1
    have no10 : H o1 = none := none_of (sbX.trans (sameB_of (u1.trans u2))) o1p no1
    have T1 : TupsAt (upd (upd (upd H10 t1 (.tup [tv [p], tv R1])) t2 (.tup [tv [q0], tv R2])) o1 (.lst [V.ref t1, V.ref t2])) o1 [(p, R1), (q0, R2)] := by
      refine ⟨[t1, t2], upd_same, rfl, fun i t r a b => ?_⟩
      match i, a, b with
      | 0, a, b =>
        have ea : t1 = t := Option.some.inj a
        have eb : (p, R1) = r := Option.some.inj b
        rw [← ea, ← eb]
        exact (u2.trans u3) _ _ upd_same
      | 1, a, b =>
        have ea : t2 = t := Option.some.inj a
        have eb : (q0, R2) = r := Option.some.inj b
        rw [← ea, ← eb]
        exact u3 _ _ upd_same
    have sbY := sbX.trans (sameB_of ((u1.trans u2).trans u3))
    have peY := pe10.same ((u1.trans u2).trans u3)
    have hAY := ((u1.trans u2).trans u3) _ _ hA10
    have hmY := ((u1.trans u2).trans u3) _ _ hm10
    generalize upd (upd (upd H10 t1 (.tup [tv [p], tv R1])) t2 (.tup [tv [q0], tv R2])) o1 (.lst [V.ref t1, V.ref t2]) = H11 at T1 sbY peY hAY hmY
    refine ⟨_, rfl, _, rfl, _, rfl, x, many, rfl, rfl, by omega, by omega, by show 2 ≤ sizeLine; decide, fun t3 nt3 => ?_⟩
    rw [rs2]
    have w1 := same_new (o := .tup [tv [p], tv R2]) nt3
    refine ⟨_, rfl, _, rfl, _, rfl, x, few, rfl, rfl, by omega, by omega, by show 2 ≤ sizeLine; decide, fun t4 nt4 => ?_⟩
    rw [rs1]
    have w2 := same_new (o := .tup [tv [q0], tv R1]) nt4
    refine ⟨by show 2 ≤ sizeLine; decide, fun o2 no2 => ?_⟩
    have w3 := same_new (o := .lst [V.ref t3, V.ref t4]) no2
    have o2p : o2 ≠ pn := (peY.same (w1.trans w2)).ne no2
    have no20 : H o2 = none := none_of (sbY.trans (sameB_of (w1.trans w2))) o2p no2
    have T2 : TupsAt (upd (upd (upd H11 t3 (.tup [tv [p], tv R2])) t4 (.tup [tv [q0], tv R1])) o2 (.lst [V.ref t3, V.ref t4])) o2 [(p, R2), (q0, R1)] := by
      refine ⟨[t3, t4], upd_same, rfl, fun i t r a b => ?_⟩
      match i, a, b with
      | 0, a, b =>
        have ea : t3 = t := Option.some.inj a
        have eb : (p, R2) = r := Option.some.inj b
        rw [← ea, ← eb]
        exact (w2.trans w3) _ _ upd_same
      | 1, a, b =>
        have ea : t4 = t := Option.some.inj a
        have eb : (q0, R1) = r := Option.some.inj b
        rw [← ea, ← eb]
        exact w3 _ _ upd_same
    have o21 : o2 ≠ o1 := fun z => by
      obtain ⟨xs, hx, _⟩ := (T1.same (w1.trans w2)).list
      rw [z, hx] at no2
      cases no2
    have o1A : o1 ≠ A := fun z => by
      rw [z, (u1.trans u2) _ _ hA10] at no1
      cases no1
    have o2A : o2 ≠ A := fun z => by
      rw [z, (w1.trans w2) _ _ hAY] at no2
      cases no2
    have T1' := T1.same ((w1.trans w2).trans w3)
    have sbZ := sbY.trans (sameB_of ((w1.trans w2).trans w3))
    have peZ := peY.same ((w1.trans w2).trans w3)
    have hAZ := ((w1.trans w2).trans w3) _ _ hAY
    have hmZ := ((w1.trans w2).trans w3) _ _ hmY
    generalize upd (upd (upd H11 t3 (.tup [tv [p], tv R2])) t4 (.tup [tv [q0], tv R1])) o2 (.lst [V.ref t3, V.ref t4]) = H12 at T1' T2 sbZ peZ hAZ hmZ
    -- the other letters
    refine ⟨_, rfl, by show 1 ≤ sizeLine; decide, fun c1 nc1 => ?_⟩
    have v1 := same_new (o := .lst [tv [x]]) nc1
    refine ⟨_, rfl, c1, mo, [tv [x]], lettV more, rfl, rfl, upd_same, v1 _ _ hmZ, small (by rw [List.length_map]; show 1 + _ ≤ _; omega), fun C nC => ⟨C, rfl, ⟨_, lst_of upd_same⟩, ?_⟩⟩
    have v2 := same_new (o := .lst ([tv [x]] ++ lettV more)) nC
    have Cp : C ≠ pn := (peZ.same v1).ne nC
    have Co1 : C ≠ o1 := fun z => by
      obtain ⟨xs, hx, _⟩ := (T1'.same v1).list
      rw [z, hx] at nC
      cases nC
    have Co2 : C ≠ o2 := fun z => by
      obtain ⟨xs, hx, _⟩ := (T2.same v1).list
      rw [z, hx] at nC
      cases nC
    refine for_it (walk_list (xs := [tv [x]] ++ lettV more)) (fun i σ H' => ∃ (rr : Rls) (y11 y12 : Option V),
        σ = [some (.ref pn), some (.ref sA), some (tv [p]), some (tv [q0]), some (tv [x]), some (.ref mo), some (.ref A), some (.int (few : Int)), some (.int (many : Int)), some (.ref o1), some (.ref o2), y11, y12, none, none] ∧
        SameB pn H H' ∧ PenAt H' pn (m + 20 + 8 * i) ∧ H' A = some (.lst (txV as)) ∧ H' C = some (.lst ([tv [x]] ++ lettV more)) ∧ TupsAt H' o1 ([(p, R1), (q0, R2)] ++ rr) ∧ TupsAt H' o2 ([(p, R2), (q0, R1)] ++ rr) ∧ keysOf rr = (x :: more).take i ∧ WordsOk rr L)
      ⟨[], _, _, rfl, sbZ.trans (sameB_of (v1.trans v2)), (peZ.same (v1.trans v2)).mono (by omega), (v1.trans v2) _ _ hAZ, upd_same, T1'.same (v1.trans v2), T2.same (v1.trans v2), rfl, (fun _ h => by simp at h)⟩
      (fun i σ H' _ pp => ?_) (fun i y σ H0' H' hlt pp yy => ?_) (fun σ H' pp => ?_)
    · obtain ⟨_, _, _, _, _, _, _, h, _⟩ := pp
      exact lst_of h
    · obtain ⟨rr, y11, y12, rfl, sb, pe, hA, hC, TA, TB, kr, wr⟩ := pp
      obtain ⟨rfl, hy⟩ := yy
      have hlx : ([tv [x]] ++ lettV more).length = more.length + 1 := by
        rw [List.length_append, List.length_map]
        show 1 + _ = _
        omega
      rw [hlx] at hlt
      have hxm : [tv [x]] ++ lettV more = lettV (x :: more) := rfl
      rw [hxm, List.getElem?_map, Option.map_eq_some_iff] at hy
      obtain ⟨c, hc, rfl⟩ := hy
      have lrr : rr.length ≤ 6 := by
        have := congrArg List.length kr
        unfold keysOf at this
        rw [List.length_map, List.length_take] at this
        omega
      refine ⟨_, rfl, _, rfl, pn, A, as, L, _, 6, rfl, pe, by omega, Ap, lst_of hA, lF.2, by omega, fun t ht => by have := (okF t ht).1; omega, fun t ht => (okF t ht).2, by decide, by decide, fun H3 t sb3 pe3 tl tm => ?_⟩
      have TA3 := TA.sameB sb3 o1p pe
      have TB3 := TB.sameB sb3 o2p pe
      have hA3 := sb3 _ _ Ap hA
      have hC3 := sb3 _ _ Cp hC
      have sbA := sb.trans sb3
      obtain ⟨xs1, hx1, lx1⟩ := TA3.list
      refine ⟨_, rfl, .inl ⟨rfl, _, lst_of hx1⟩, _, rfl, _, rfl, by show 2 ≤ sizeLine; decide, fun d1 nd1 => ?_⟩
      have d1p : d1 ≠ pn := pe3.ne nd1
      have d1o1 : d1 ≠ o1 := fun z => by subst z; rw [hx1] at nd1; cases nd1
      have hx1' : (upd H3 d1 (.tup [tv [c], tv t])) o1 = some (.lst xs1) := by rw [upd_ne d1o1.symm]; exact hx1
      have sn1 := same_new (o := .tup [tv [c], tv t]) nd1
      refine ⟨o1, _, _, rfl, rfl, hx1', small' (by rw [lx1, List.length_append]; show 2 + _ ≤ _; omega), ?_⟩
      have TA4 : TupsAt (upd (upd H3 d1 (.tup [tv [c], tv t])) o1 (.lst (xs1 ++ [.ref d1]))) o1 (([(p, R1), (q0, R2)] ++ rr) ++ [(c, t)]) := (TA3.same sn1).snoc hx1' upd_same
      have TB4 : TupsAt (upd (upd H3 d1 (.tup [tv [c], tv t])) o1 (.lst (xs1 ++ [.ref d1]))) o2 ([(p, R2), (q0, R1)] ++ rr) := (TB3.same sn1).other o21 hx1'
      have sbB : SameB pn H (upd (upd H3 d1 (.tup [tv [c], tv t])) o1 (.lst (xs1 ++ [.ref d1]))) := sameB_mut (sbA.trans (sameB_of sn1)) no10
      have peB : PenAt (upd (upd H3 d1 (.tup [tv [c], tv t])) o1 (.lst (xs1 ++ [.ref d1]))) pn (m + 20 + 8 * (i + 1)) := ((pe3.upd d1p).upd o1p).mono (by omega)
      have hA4 : (upd (upd H3 d1 (.tup [tv [c], tv t])) o1 (.lst (xs1 ++ [.ref d1]))) A = some (.lst (txV as)) := by rw [upd_ne o1A.symm]; exact sn1 _ _ hA3
      have hC4 : (upd (upd H3 d1 (.tup [tv [c], tv t])) o1 (.lst (xs1 ++ [.ref d1]))) C = some (.lst ([tv [x]] ++ lettV more)) := by rw [upd_ne Co1]; exact sn1 _ _ hC3
      generalize upd (upd H3 d1 (.tup [tv [c], tv t])) o1 (.lst (xs1 ++ [.ref d1])) = H4' at TA4 TB4 sbB peB hA4 hC4
      obtain ⟨xs2, hx2, lx2⟩ := TB4.list
      refine ⟨_, rfl, .inl ⟨rfl, _, lst_of hx2⟩, _, rfl, _, rfl, by show 2 ≤ sizeLine; decide, fun d2 nd2 => ?_⟩
      have d2p : d2 ≠ pn := peB.ne nd2
      have d2o2 : d2 ≠ o2 := fun z => by subst z; rw [hx2] at nd2; cases nd2
      have hx2' : (upd H4' d2 (.tup [tv [c], tv t])) o2 = some (.lst xs2) := by rw [upd_ne d2o2.symm]; exact hx2
      have sn2 := same_new (o := .tup [tv [c], tv t]) nd2
      refine ⟨o2, _, _, rfl, rfl, hx2', small' (by rw [lx2, List.length_append]; show 2 + _ ≤ _; omega), ?_⟩
      refine ⟨rr ++ [(c, t)], _, _, rfl, sameB_mut (sbB.trans (sameB_of sn2)) no20, (peB.upd d2p).upd o2p, ?_, ?_, ?_, ?_, ?_, ?_⟩
      · rw [upd_ne o2A.symm]; exact sn2 _ _ hA4
      · rw [upd_ne Co2]; exact sn2 _ _ hC4
      · rw [← List.append_assoc]
        exact (TA4.same sn2).other o21.symm hx2'
      · rw [← List.append_assoc]
        exact (TB4.same sn2).snoc hx2' upd_same
      · rw [keysOf_app, kr, take_snoc hc]; rfl
      · exact wr.app fun r hr => by rw [List.mem_singleton.mp hr]; exact ⟨by show t.length ≤ 6; omega, tm⟩
    obtain ⟨rr, y11, y12, rfl, sb, pe, hA, hC, TA, TB, kr, wr⟩ := pp
    have hlx : ([tv [x]] ++ lettV more).length = more.length + 1 := by
      rw [List.length_append, List.length_map]
      show 1 + _ = _
      omega
    rw [hlx] at kr pe
    rw [List.take_of_length_le (by exact Nat.le_refl _)] at kr
    have ka : keysOf ([(p, R1), (q0, R2)] ++ rr) = L := by rw [keysOf_app, kr, ← hL]; rfl
    have kb : keysOf ([(p, R2), (q0, R1)] ++ rr) = L := by rw [keysOf_app, kr, ← hL]; rfl
    have wa : WordsOk ([(p, R1), (q0, R2)] ++ rr) L := WordsOk.app (fun r hr => by
      simp only [List.mem_cons, List.not_mem_nil, or_false] at hr
      rcases hr with rfl | rfl
      · exact ⟨lR1, mR1⟩
      · exact ⟨lR2, mR2⟩) wr
    have wb : WordsOk ([(p, R2), (q0, R1)] ++ rr) L := WordsOk.app (fun r hr => by
      simp only [List.mem_cons, List.not_mem_nil, or_false] at hr
      rcases hr with rfl | rfl
      · exact ⟨lR2, mR2⟩
      · exact ⟨lR1, mR1⟩) wr
    have lL : L.length ≤ 8 := by
      rw [← hL]
      show more.length + 1 + 1 + 1 ≤ 8
      omega
    rw [hL] at ndL azL
    generalize [(p, R1), (q0, R2)] ++ rr = ra at ka wa TA
    generalize [(p, R2), (q0, R1)] ++ rr = rb at kb wb TB
    -- the first text
    refine ⟨_, rfl, pn, 7, _, rfl, pe, by omega, by decide, by decide, fun H20 v20 sb20 pe20 h200 h201 => ?_⟩
    obtain ⟨half, rfl⟩ : ∃ k : Nat, v20 = (k : Int) := ⟨v20.toNat, by omega⟩
    have lP : (List.replicate half p).length = half := List.length_replicate
    have lQ : (List.replicate half q0).length = half := List.length_replicate
    have iP : ∀ c ∈ List.replicate half p, c ∈ L := in_rep mp
    have iQ : ∀ c ∈ List.replicate half q0, c ∈ L := in_rep mq
    have eP := rep_str p half
    have eQ := rep_str q0 half
    generalize List.replicate half p = FP at lP iP eP
    generalize List.replicate half q0 = FQ at lQ iQ eQ
    refine ⟨_, rfl, _, rfl, p, half, rfl, rfl, by omega, by omega, _, rfl, _, rfl, q0, half, rfl, rfl, by omega, by omega, ?_⟩
    rw [eP, eQ]
    refine ⟨_, _, rfl, rfl, sz2 (by omega), ?_⟩
    rw [append_str]
    have lF0 : (FP ++ FQ).length ≤ 12 := by rw [List.length_append]; omega
    have iF0 := in_app iP iQ
    generalize FP ++ FQ = F0 at lF0 iF0
    refine ⟨_, rfl, _, rfl, _, rfl, _, rfl, S F0, rfl, small (by rw [S_len]; omega), _, _, rfl, rfl, pn, A, as, L, _, _, rfl, pe20, by omega, Ap, lst_of (sb20 _ _ Ap hA), lF.2, by omega, fun t ht => by have := (okF t ht).1; omega, fun t ht => (okF t ht).2, by rw [S_len]; omega, by rw [S_len]; omega, fun H21 t sb21 pe21 tl tm => ?_⟩
    rw [S_len] at tl
    refine ⟨_, _, rfl, rfl, sz2 (by omega), ?_⟩
    rw [append_str]
    have bl : (F0 ++ t).length ≤ 12 := by rw [List.length_append]; omega
    have bm := in_app iF0 tm
    generalize F0 ++ t = F at bl bm
    have sbQ := (sb.trans sb20).trans sb21
    have t1' := (TA.sameB (sb20.trans sb21) o1p pe)
    have t2' := (TB.sameB (sb20.trans sb21) o2p pe)
    have hGA := sb21 _ _ Ap (sb20 _ _ Ap hA)
    have raw1 : RawOk ra L := ⟨ka, ndL, lL, azL, wa⟩
    have raw2 : RawOk rb L := ⟨kb, ndL, lL, azL, wb⟩
    obtain ⟨xs1, hx1, _⟩ := t1'.list
    refine ⟨_, rfl, _, rfl, o1, xs1, keyH H21, rfl, lst_of hx1, sort_in t1' hx1, fun ys l1 pw1 pm1 nl1 => ⟨l1, ys, rfl, .inl ⟨lst_of upd_same, fun T1 nT1 => ?_⟩⟩⟩
    obtain ⟨q1, s1, b1', pm1, pw1⟩ := sort_out (K := K) t1' hx1 (by rw [ka]; exact ndL) pw1 pm1 nl1 nT1
    generalize upd (upd H21 l1 (.lst ys)) T1 (.tup ys) = H22 at s1 b1'
    refine ⟨by show 2 ≤ sizeLine; decide, fun b1 nb1 => ?_⟩
    have s1' := s1.trans (same_new (o := .tup [tv F, .ref T1]) nb1)
    have t2'' := t2'.same s1'
    obtain ⟨xs2, hx2, _⟩ := t2''.list
    refine ⟨_, rfl, _, rfl, o2, xs2, keyH _, rfl, lst_of hx2, sort_in t2'' hx2, fun ys l2 pw2 pm2 nl2 => ⟨l2, ys, rfl, .inl ⟨lst_of upd_same, fun T2 nT2 => ?_⟩⟩⟩
    obtain ⟨q2, s2, b2', pm2, pw2⟩ := sort_out (K := K) t2'' hx2 (by rw [kb]; exact ndL) pw2 pm2 nl2 nT2
    generalize upd (upd (upd H22 b1 (.tup [tv F, .ref T1])) l2 (.lst ys)) T2 (.tup ys) = H23 at s2 b2'
    refine ⟨by show 2 ≤ sizeLine; decide, fun b2 nb2 => ?_⟩
    have s2' := s2.trans (same_new (o := .tup [tv F, .ref T2]) nb2)
    refine ⟨_, rfl, by show 3 ≤ sizeLine; decide, fun R nR => ?_⟩
    have s3' := same_new (o := .tup [.ref b1, .ref b2, .ref A]) nR
    refine q _ _ (sbQ.trans (sameB_of ((s1'.trans s2').trans s3'))) ?_
    have pk1 : (keysOf q1).Perm L := by rw [← ka]; exact pm1.map (fun r : Nat × Tx => r.1)
    have e12 : keysOf q2 = keysOf q1 := by
      refine sorted_same pw2 pw1 ?_
      have e2 : (keysOf q2).Perm L := by rw [← kb]; exact pm2.map (fun r : Nat × Tx => r.1)
      exact e2.trans pk1.symm
    refine ⟨R, A, .ref b1, .ref b2, F, q1, q2, rfl, upd_same, ⟨b1, T1, rfl, tup_of ((s2'.trans s3') _ _ upd_same), (b1'.same (same_new nb1)).same (s2'.trans s3')⟩, ⟨b2, T2, rfl, tup_of (s3' _ _ upd_same), (b2'.same (same_new nb2)).same s3'⟩, raw1.ok pm1, raw2.ok pm2, e12, bl, fun c hc => pk1.mem_iff.mpr (bm c hc), ?_⟩
    have h1 := pk1.length_eq
    unfold keysOf at h1
    rw [List.length_map, ← hL] at h1
    rw [h1]
    exact Nat.succ_pos _
end
end Lg
/-! _law_spoil walked -/
namespace Lg
open PySem PySem.Spec PyProof.Rows L2
theorem cutS_from (t : Tx) (a : Nat) : cutS (S t) (some (a : Int)) none = S (t.drop a) := by
  unfold cutS
  rw [HT.sIx_nat, HT.sIx_none, S_list, S_len]
  congr 2
  by_cases h : a ≤ t.length
  · rw [Nat.min_eq_left h]
    exact List.take_of_length_le (by rw [List.length_drop]; omega)
  · rw [Nat.min_eq_right (by omega : t.length ≤ a), List.drop_of_length_le (Nat.le_refl _), List.drop_of_length_le (by omega : t.length ≤ a)]
    simp
theorem eqv_no {a b : Int} (n : a ≠ b) : decide (V.int a = V.int b) = false := decide_eq_false fun h => n (V.int.inj h)
theorem eqv_yes (a : Int) : decide (V.int a = V.int a) = true := decide_eq_true rfl
theorem get_mem {α : Type} {l : List α} {i : Nat} {x : α} (h : l[i]? = some x) : x ∈ l := List.mem_of_getElem? h
theorem tx_get {ts : List Tx} {j : Nat} {t : Tx} (h : ts[j]? = some t) : (txV ts)[j]? = some (tv t) := by
  rw [List.getElem?_map, h]
  rfl
theorem txV_set (ts : List Tx) (j : Nat) (t : Tx) : (txV ts).set j (tv t) = txV (ts.set j t) := by
  unfold txV
  rw [List.map_set]
theorem refs_of {l : List V} (h : ∀ v ∈ l, ∃ d, v = V.ref d) : ∃ ds : List Addr, l = ds.map V.ref := by
  induction l with
  | nil => exact ⟨[], rfl⟩
  | cons v l ih =>
    obtain ⟨ds, e⟩ := ih fun u hu => h u (List.mem_cons_of_mem _ hu)
    obtain ⟨d, e2⟩ := h v List.mem_cons_self
    exact ⟨d :: ds, by rw [e, e2]; rfl⟩
theorem cut12 (t : Tx) : cutS (S t) none (some 12) = S (t.take 12) := cutS_to t 12
theorem spoil_fin {rs : Rls} {tf : List Tx} (ok : RlsOk rs) (lf : tf.length = rs.length + 1) (oks : ∀ (i : Nat) (t : Tx), tf[i]? = some t → t.length ≤ 13 ∧ (∀ d ∈ t, d ∈ keysOf rs) ∧ (i < rs.length → t.length ≤ 6)) :
    keysOf ((keysOf rs).zip tf) = keysOf rs ∧ RlsOk ((keysOf rs).zip tf) := by
  have hkl : (keysOf rs).length = rs.length := by
    unfold keysOf
    rw [List.length_map]
  have kz : keysOf ((keysOf rs).zip tf) = keysOf rs := by
    show ((keysOf rs).zip tf).map Prod.fst = _
    exact List.map_fst_zip (by omega)
  refine ⟨kz, by rw [kz]; exact ok.nd, ?_, by rw [kz]; exact ok.sign, fun p hp => ?_⟩
  · rw [List.length_zip]
    have := ok.len
    omega
  · obtain ⟨i, hi⟩ := List.getElem?_of_mem hp
    rw [List.getElem?_zip_eq_some] at hi
    have h1 := (List.getElem?_eq_some_iff.mp hi.1).1
    have := oks i _ hi.2
    exact ⟨this.2.2 (by omega), by rw [kz]; exact this.2.1⟩
section
variable {P : Program} {w : World} {K : PySem.W.Frag} {mg : Str → Option Value} {base : Heap}
def spSpoil (K : PySem.W.Frag) : Sp := fun vs H Q _ => ∃ (b : V) (f0 : Tx) (rs : Rls) (sp pl sg : Int), vs = [b, .int sp, .int pl, .int sg] ∧ BookAt K H b f0 rs ∧ RlsOk rs ∧ f0.length ≤ 12 ∧ (∀ c ∈ f0, c ∈ keysOf rs) ∧ 0 < rs.length ∧ 0 ≤ sp ∧ sp ≤ 3 ∧
  ∀ H' b' f' rs', Same H H' → BookAt K H' b' f' rs' → RlsOk rs' → keysOf rs' = keysOf rs → f'.length ≤ 12 → (∀ c ∈ f', c ∈ keysOf rs') → Q b' H'
abbrev spoilN : List Str := ["_law_book", "_law_spoil_here", "_law_at", "_law_sign", "_law_signs_here", "_law_fresh", "_law_texts", "_law_which", "_law_old", "_law_place", "_law_rules", "_law_rule", "_law_k"]
set_option maxHeartbeats 8000000 in
theorem spoil_tail (T : Facts K mg) (f : Addr) (cdv : Value) (A : Around) (outer : List Env) (s : Shared) (H0 : Hp) (E : XK) (Dn : Ends) (hr : Room 0 (A.deeper (envOfC "_law_spoil" (defScope s_law_spoil) s.heap.objs.size f cdv))) :
    ∃ tt, PSs (cxOf CX0 P w K mg base spoilN "_law_spoil" (defScope s_law_spoil) f cdv A outer s H0 E).nox ((defBody s_law_spoil).drop 10) tt ∧
      ∀ (v0 v1 v2 v3 v5 v9 : V) (D X : Addr) (k : Nat) (old u : Tx) (rs : Rls) (t5 : List Tx) (H H5 : Hp), H5 D = some (.lst (lettV (keysOf rs))) → H5 X = some (.lst (txV t5)) → H X = none → X ≠ D → t5.length = rs.length + 1 → t5[k]? = some u →
        (∀ (i : Nat) (t : Tx), t5[i]? = some t → t.length ≤ 13 ∧ (∀ d ∈ t, d ∈ keysOf rs) ∧ (i < rs.length → i ≠ k → t.length ≤ 6)) → old.length ≤ 12 → (∀ d ∈ old, d ∈ keysOf rs) → (k < rs.length → old.length ≤ 6) → RlsOk rs → Same H H5 →
        (∀ H' b' f' rs', Same H H' → BookAt K H' b' f' rs' → RlsOk rs' → keysOf rs' = keysOf rs → f'.length ≤ 12 → (∀ c ∈ f', c ∈ keysOf rs') → Dn.rt b' H') →
        tt Dn [some v0, some v1, some v2, some v3, some (.ref D), some v5, some (.ref X), some (.int (k : Int)), some (tv old), some v9, none, none, none] H5 := by
  refine ⟨_, (pss_cons (ps_if (PW.pt (pw_and (pt_cmpR op_gt (pe_callB call_len_str (by rfl) T.b_len PySem.boot_len (pa_cons (pe_ix (r := rIxL K) ix_list (pv 6) (pv 7) (fun _ _ => rfl)) pa_nil)) pe_int (nomark _)) (pw_and1 (pt_cmpR op_lt (pv 7) (pe_callB call_len_seq (by rfl) T.b_len PySem.boot_len (pa_cons (pv 4) pa_nil)) (nomark _)))))
      (pss_one (ps_asg (pv 8) (pg_sub (pv 6) (pv 7) set_list)))
      pss_nil)
      (pss_cons (ps_set (i := 10) sc_law_spoil.nd rfl (Or.inl rfl) (pe_callTy call_tuple_of (by rfl) T.b_tuple (by decide +kernel) (pa_cons (pe_lc (own := [("_law_k", 12)]) (g := gName 12) (tt := tYes) rfl sc_law_spoil.nd (pi_range1 rfl T.b_range (pa_cons (pe_callB call_len_seq (by rfl) T.b_len PySem.boot_len (pa_cons (pv 4) pa_nil)) pa_nil)) (blkOk_by (N := ["_law_book", "_law_spoil_here", "_law_at", "_law_sign", "_law_signs_here", "_law_fresh", "_law_texts", "_law_which", "_law_old", "_law_place", "_law_rules", "_law_rule", "_law_k"]) (sc := defScope s_law_spoil) (by decide +kernel)) (fun _ _ _ _ _ => pg_name (i := 12) sc_law_spoil.nd rfl (Or.inl rfl)) (fun _ _ _ _ _ => pts_nil) (fun _ _ _ _ _ => (pe_tup (pa_cons (pe_ix (r := rIxL K) ix_list (pv 4) (pv 12) (fun _ _ => rfl)) (pa_cons (pe_ix (r := rIxL K) ix_list (pv 6) (pv 12) (fun _ _ => rfl)) pa_nil))))) pa_nil)))
      (pss_one (ps_ret (pe_tup (pa_cons (pe_slice (r := rSlS) sl_str (pe_ix (r := rIxL K) ix_list (pv 6) (pe_callB call_len_seq (by rfl) T.b_len PySem.boot_len (pa_cons (pv 4) pa_nil)) (fun _ _ => rfl)) po_none (po_some pe_int)) (pa_cons (pv 10) pa_nil))))))), fun v0 v1 v2 v3 v5 v9 D X k old u rs t5 H H5 hD5 hX5 nX0 XD l5 hu ok5 ol om o6 ok s05 q => ?_⟩
  have h8 := ok.len
  have hkl : (keysOf rs).length = rs.length := by
    unfold keysOf
    rw [List.length_map]
  have hk5 := (List.getElem?_eq_some_iff.mp hu).1
  have ul := (ok5 k u hu).1
  have hu5 := tx_get hu
  refine ⟨_, rfl, _, rfl, X, _, _, _, rfl, rfl, lst_of hX5, at_of rfl hu5, S u, rfl, small (by rw [S_len]; omega), _, _, rfl, rfl, _, rfl, ite2 (fun e1 => ?_) (fun e1 => ?_)⟩
  · refine ⟨_, rfl, _, rfl, D, _, rfl, .inl (lst_of hD5), _, _, rfl, rfl, _, rfl, ite2 (fun e2 => ?_) (fun e2 => ?_)⟩
    · refine ⟨_, rfl, _, rfl, _, rfl, X, _, _, k, rfl, rfl, hX5, Evl.ixN_nat (by rw [List.length_map, l5]; omega), ?_⟩
      have s07 : Same H (upd H5 X (.lst ((txV t5).set k (tv old)))) := same_mut s05 nX0
      have hD7 : (upd H5 X (.lst ((txV t5).set k (tv old)))) D = some (.lst (lettV (keysOf rs))) := by rw [upd_ne XD.symm]; exact hD5
      have hX7 : (upd H5 X (.lst ((txV t5).set k (tv old)))) X = some (.lst (txV (t5.set k old))) := by rw [upd_same, txV_set]
      generalize upd H5 X (.lst ((txV t5).set k (tv old))) = H7 at s07 hD7 hX7
      have oks : ∀ (i : Nat) (t : Tx), (t5.set k old)[i]? = some t → t.length ≤ 13 ∧ (∀ d ∈ t, d ∈ keysOf rs) ∧ (i < rs.length → t.length ≤ 6) := fun i t h => by
        by_cases e : k = i
        · subst e
          rw [List.getElem?_set_self (by omega)] at h
          have e2 : old = t := Option.some.inj h
          subst e2
          exact ⟨by omega, om, o6⟩
        · rw [List.getElem?_set_ne e] at h
          have := ok5 i t h
          exact ⟨this.1, this.2.1, fun g => this.2.2 g (fun z => e z.symm)⟩
      have lf : (t5.set k old).length = rs.length + 1 := by rw [List.length_set]; exact l5
      have hX6 := hX7
      have hD6 := hD7
      have s06 := s07
      generalize t5.set k old = tf at oks lf hX6
      have eln : ((lettV (keysOf rs)).length : Int).toNat = rs.length := by rw [List.length_map, hkl]; omega
      refine ⟨_, rfl, D, _, rfl, .inl (lst_of hD6), _, rfl, by rw [List.length_map]; omega, by rw [List.length_map]; omega, fun E nE => ?_⟩
      rw [eln]
      refine lcn_gen2 walk_range (fun i v H => ∃ t, v = V.ref t ∧ t ≠ E ∧ ∃ c u, (keysOf rs)[i]? = some c ∧ tf[i]? = some u ∧ H t = some (.tup [tv [c], tv u])) (by omega) nE (fun _ _ => trivial) (fun _ => rfl) (fun j v H4 H5 s4 h => ?_) (fun j v H4 xs ys hD4 h => ?_) (fun j x H7' H7 Qc hlt sm hac y qc => ?_) (fun H8 acc sm hacc hal hae => ?_)
      · obtain ⟨d, e1, hne, c', u', h1, h2, h3⟩ := h
        exact ⟨d, e1, hne, c', u', h1, h2, s4 _ _ h3⟩
      · obtain ⟨d, e1, hne, c', u', h1, h2, h3⟩ := h
        exact ⟨d, e1, hne, c', u', h1, h2, by rw [upd_ne hne]; exact h3⟩
      · obtain ⟨rfl, ex⟩ := y
        have ex2 : x = .int (j : Int) := ex.trans (congrArg V.int (Int.zero_add _))
        subst ex2
        obtain ⟨acc, hacc⟩ := hac
        have h1 : (keysOf rs)[j]? = some ((keysOf rs)[j]'(by omega)) := List.getElem?_eq_getElem (by omega)
        have h2 : tf[j]? = some (tf[j]'(by omega)) := List.getElem?_eq_getElem (by omega)
        generalize ((keysOf rs)[j]'(by omega)) = c' at h1
        generalize (tf[j]'(by omega)) = u' at h2
        refine ⟨_, rfl, _, rfl, D, _, _, _, rfl, rfl, lst_of (sm _ _ hD6), at_of rfl (lettV_get h1), _, rfl, _, rfl, X, _, _, _, rfl, rfl, lst_of (sm _ _ hX6), at_of rfl (tx_get h2), by show 2 ≤ sizeLine; decide, fun t nt => ?_⟩
        exact qc _ _ (same_new nt) ⟨t, rfl, (fun z => by subst z; rw [hacc] at nt; cases nt), c', u', h1, h2, upd_same⟩
      · obtain ⟨ds, rfl⟩ := refs_of (l := acc) fun v hv => by
          obtain ⟨i, hi'⟩ := List.getElem?_of_mem hv
          obtain ⟨d, e, _⟩ := hae i v hi'
          exact ⟨d, e⟩
        rw [List.length_map] at hal
        refine ⟨E, ds.map V.ref, rfl, .inl ⟨lst_of hacc, fun R nR => ?_⟩⟩
        have r1 := same_new (o := .tup (ds.map V.ref)) nR
        have h6 : tf[(lettV (keysOf rs)).length]? = some (tf[(lettV (keysOf rs)).length]'(by rw [List.length_map]; omega)) := List.getElem?_eq_getElem _
        generalize (tf[(lettV (keysOf rs)).length]'(by rw [List.length_map]; omega)) = t6 at h6
        obtain ⟨l6, m6, _⟩ := oks _ t6 h6
        refine ⟨_, rfl, _, rfl, D, _, rfl, .inl (lst_of (r1 _ _ (sm _ _ hD6))), X, _, _, _, rfl, rfl, lst_of (r1 _ _ (sm _ _ hX6)), at_of rfl (tx_get h6), 12, rfl, S t6, rfl, small (by rw [S_len]; omega), ?_⟩
        rw [cut12]
        refine ⟨_, rfl, by show 2 ≤ sizeLine; decide, fun B nB => ?_⟩
        have r2 := same_new (o := .tup [tv (t6.take 12), .ref R]) nB
        obtain ⟨kz, okz⟩ := spoil_fin ok lf oks
        refine q _ (.ref B) (t6.take 12) ((keysOf rs).zip tf) (((s06.trans sm).trans r1).trans r2) ⟨B, R, rfl, tup_of upd_same, ds, tup_of (r2 _ _ upd_same), by rw [List.length_zip]; omega, fun i t r' g1 g2 => ?_⟩ okz kz (by rw [List.length_take]; omega) fun d hd => by rw [kz]; exact m6 d (List.mem_of_mem_take hd)
        obtain ⟨d, e, _, c', u', g3, g4, g5⟩ := hae i (.ref t) (by rw [List.getElem?_map, g1]; rfl)
        have ed : t = d := V.ref.inj e
        subst ed
        rw [List.getElem?_zip_eq_some] at g2
        rw [g3, g4] at g2
        have e1 := Option.some.inj g2.1
        have e2 := Option.some.inj g2.2
        rw [← e1, ← e2]
        exact tup_of ((r1.trans r2) _ _ g5)
    · have kn : rs.length ≤ k := by
        have h1 : ¬ ((k : Int) < ((lettV (keysOf rs)).length : Int)) := fun h => e2 (decide_eq_true h)
        rw [List.length_map, hkl] at h1
        omega
      have oks : ∀ (i : Nat) (t : Tx), (t5)[i]? = some t → t.length ≤ 13 ∧ (∀ d ∈ t, d ∈ keysOf rs) ∧ (i < rs.length → t.length ≤ 6) := fun i t h => by
        have := ok5 i t h
        exact ⟨this.1, this.2.1, fun g => this.2.2 g (by omega)⟩
      have lf : (t5).length = rs.length + 1 := l5
      have hX6 := hX5
      have hD6 := hD5
      have s06 := s05
      generalize t5 = tf at oks lf hX6
      have eln : ((lettV (keysOf rs)).length : Int).toNat = rs.length := by rw [List.length_map, hkl]; omega
      refine ⟨_, rfl, D, _, rfl, .inl (lst_of hD6), _, rfl, by rw [List.length_map]; omega, by rw [List.length_map]; omega, fun E nE => ?_⟩
      rw [eln]
      refine lcn_gen2 walk_range (fun i v H => ∃ t, v = V.ref t ∧ t ≠ E ∧ ∃ c u, (keysOf rs)[i]? = some c ∧ tf[i]? = some u ∧ H t = some (.tup [tv [c], tv u])) (by omega) nE (fun _ _ => trivial) (fun _ => rfl) (fun j v H4 H5 s4 h => ?_) (fun j v H4 xs ys hD4 h => ?_) (fun j x H7' H7 Qc hlt sm hac y qc => ?_) (fun H8 acc sm hacc hal hae => ?_)
      · obtain ⟨d, e1, hne, c', u', h1, h2, h3⟩ := h
        exact ⟨d, e1, hne, c', u', h1, h2, s4 _ _ h3⟩
      · obtain ⟨d, e1, hne, c', u', h1, h2, h3⟩ := h
        exact ⟨d, e1, hne, c', u', h1, h2, by rw [upd_ne hne]; exact h3⟩
      · obtain ⟨rfl, ex⟩ := y
        have ex2 : x = .int (j : Int) := ex.trans (congrArg V.int (Int.zero_add _))
        subst ex2
        obtain ⟨acc, hacc⟩ := hac
        have h1 : (keysOf rs)[j]? = some ((keysOf rs)[j]'(by omega)) := List.getElem?_eq_getElem (by omega)
        have h2 : tf[j]? = some (tf[j]'(by omega)) := List.getElem?_eq_getElem (by omega)
        generalize ((keysOf rs)[j]'(by omega)) = c' at h1
        generalize (tf[j]'(by omega)) = u' at h2
        refine ⟨_, rfl, _, rfl, D, _, _, _, rfl, rfl, lst_of (sm _ _ hD6), at_of rfl (lettV_get h1), _, rfl, _, rfl, X, _, _, _, rfl, rfl, lst_of (sm _ _ hX6), at_of rfl (tx_get h2), by show 2 ≤ sizeLine; decide, fun t nt => ?_⟩
        exact qc _ _ (same_new nt) ⟨t, rfl, (fun z => by subst z; rw [hacc] at nt; cases nt), c', u', h1, h2, upd_same⟩
      · obtain ⟨ds, rfl⟩ := refs_of (l := acc) fun v hv => by
          obtain ⟨i, hi'⟩ := List.getElem?_of_mem hv
          obtain ⟨d, e, _⟩ := hae i v hi'
          exact ⟨d, e⟩
        rw [List.length_map] at hal
        refine ⟨E, ds.map V.ref, rfl, .inl ⟨lst_of hacc, fun R nR => ?_⟩⟩
        have r1 := same_new (o := .tup (ds.map V.ref)) nR
        have h6 : tf[(lettV (keysOf rs)).length]? = some (tf[(lettV (keysOf rs)).length]'(by rw [List.length_map]; omega)) := List.getElem?_eq_getElem _
        generalize (tf[(lettV (keysOf rs)).length]'(by rw [List.length_map]; omega)) = t6 at h6
        obtain ⟨l6, m6, _⟩ := oks _ t6 h6
        refine ⟨_, rfl, _, rfl, D, _, rfl, .inl (lst_of (r1 _ _ (sm _ _ hD6))), X, _, _, _, rfl, rfl, lst_of (r1 _ _ (sm _ _ hX6)), at_of rfl (tx_get h6), 12, rfl, S t6, rfl, small (by rw [S_len]; omega), ?_⟩
        rw [cut12]
        refine ⟨_, rfl, by show 2 ≤ sizeLine; decide, fun B nB => ?_⟩
        have r2 := same_new (o := .tup [tv (t6.take 12), .ref R]) nB
        obtain ⟨kz, okz⟩ := spoil_fin ok lf oks
        refine q _ (.ref B) (t6.take 12) ((keysOf rs).zip tf) (((s06.trans sm).trans r1).trans r2) ⟨B, R, rfl, tup_of upd_same, ds, tup_of (r2 _ _ upd_same), by rw [List.length_zip]; omega, fun i t r' g1 g2 => ?_⟩ okz kz (by rw [List.length_take]; omega) fun d hd => by rw [kz]; exact m6 d (List.mem_of_mem_take hd)
        obtain ⟨d, e, _, c', u', g3, g4, g5⟩ := hae i (.ref t) (by rw [List.getElem?_map, g1]; rfl)
        have ed : t = d := V.ref.inj e
        subst ed
        rw [List.getElem?_zip_eq_some] at g2
        rw [g3, g4] at g2
        have e1 := Option.some.inj g2.1
        have e2 := Option.some.inj g2.2
        rw [← e1, ← e2]
        exact tup_of ((r1.trans r2) _ _ g5)
  · refine iteF ?_
    have u6 : u.length ≤ 6 := by
      have h1 : ¬ ((6 : Int) < ((S u).length : Int)) := fun h => e1 (decide_eq_true h)
      rw [S_len] at h1
      omega
    have oks : ∀ (i : Nat) (t : Tx), (t5)[i]? = some t → t.length ≤ 13 ∧ (∀ d ∈ t, d ∈ keysOf rs) ∧ (i < rs.length → t.length ≤ 6) := fun i t h => by
      have := ok5 i t h
      refine ⟨this.1, this.2.1, fun g => ?_⟩
      by_cases e : i = k
      · subst e
        rw [hu] at h
        rw [← Option.some.inj h]
        exact u6
      · exact this.2.2 g e
    have lf : (t5).length = rs.length + 1 := l5
    have hX6 := hX5
    have hD6 := hD5
    have s06 := s05
    generalize t5 = tf at oks lf hX6
    have eln : ((lettV (keysOf rs)).length : Int).toNat = rs.length := by rw [List.length_map, hkl]; omega
    refine ⟨_, rfl, D, _, rfl, .inl (lst_of hD6), _, rfl, by rw [List.length_map]; omega, by rw [List.length_map]; omega, fun E nE => ?_⟩
    rw [eln]
    refine lcn_gen2 walk_range (fun i v H => ∃ t, v = V.ref t ∧ t ≠ E ∧ ∃ c u, (keysOf rs)[i]? = some c ∧ tf[i]? = some u ∧ H t = some (.tup [tv [c], tv u])) (by omega) nE (fun _ _ => trivial) (fun _ => rfl) (fun j v H4 H5 s4 h => ?_) (fun j v H4 xs ys hD4 h => ?_) (fun j x H7' H7 Qc hlt sm hac y qc => ?_) (fun H8 acc sm hacc hal hae => ?_)
    · obtain ⟨d, e1, hne, c', u', h1, h2, h3⟩ := h
      exact ⟨d, e1, hne, c', u', h1, h2, s4 _ _ h3⟩
    · obtain ⟨d, e1, hne, c', u', h1, h2, h3⟩ := h
      exact ⟨d, e1, hne, c', u', h1, h2, by rw [upd_ne hne]; exact h3⟩
    · obtain ⟨rfl, ex⟩ := y
      have ex2 : x = .int (j : Int) := ex.trans (congrArg V.int (Int.zero_add _))
      subst ex2
      obtain ⟨acc, hacc⟩ := hac
      have h1 : (keysOf rs)[j]? = some ((keysOf rs)[j]'(by omega)) := List.getElem?_eq_getElem (by omega)
      have h2 : tf[j]? = some (tf[j]'(by omega)) := List.getElem?_eq_getElem (by omega)
      generalize ((keysOf rs)[j]'(by omega)) = c' at h1
      generalize (tf[j]'(by omega)) = u' at h2
      refine ⟨_, rfl, _, rfl, D, _, _, _, rfl, rfl, lst_of (sm _ _ hD6), at_of rfl (lettV_get h1), _, rfl, _, rfl, X, _, _, _, rfl, rfl, lst_of (sm _ _ hX6), at_of rfl (tx_get h2), by show 2 ≤ sizeLine; decide, fun t nt => ?_⟩
      exact qc _ _ (same_new nt) ⟨t, rfl, (fun z => by subst z; rw [hacc] at nt; cases nt), c', u', h1, h2, upd_same⟩
    · obtain ⟨ds, rfl⟩ := refs_of (l := acc) fun v hv => by
        obtain ⟨i, hi'⟩ := List.getElem?_of_mem hv
        obtain ⟨d, e, _⟩ := hae i v hi'
        exact ⟨d, e⟩
      rw [List.length_map] at hal
      refine ⟨E, ds.map V.ref, rfl, .inl ⟨lst_of hacc, fun R nR => ?_⟩⟩
      have r1 := same_new (o := .tup (ds.map V.ref)) nR
      have h6 : tf[(lettV (keysOf rs)).length]? = some (tf[(lettV (keysOf rs)).length]'(by rw [List.length_map]; omega)) := List.getElem?_eq_getElem _
      generalize (tf[(lettV (keysOf rs)).length]'(by rw [List.length_map]; omega)) = t6 at h6
      obtain ⟨l6, m6, _⟩ := oks _ t6 h6
      refine ⟨_, rfl, _, rfl, D, _, rfl, .inl (lst_of (r1 _ _ (sm _ _ hD6))), X, _, _, _, rfl, rfl, lst_of (r1 _ _ (sm _ _ hX6)), at_of rfl (tx_get h6), 12, rfl, S t6, rfl, small (by rw [S_len]; omega), ?_⟩
      rw [cut12]
      refine ⟨_, rfl, by show 2 ≤ sizeLine; decide, fun B nB => ?_⟩
      have r2 := same_new (o := .tup [tv (t6.take 12), .ref R]) nB
      obtain ⟨kz, okz⟩ := spoil_fin ok lf oks
      refine q _ (.ref B) (t6.take 12) ((keysOf rs).zip tf) (((s06.trans sm).trans r1).trans r2) ⟨B, R, rfl, tup_of upd_same, ds, tup_of (r2 _ _ upd_same), by rw [List.length_zip]; omega, fun i t r' g1 g2 => ?_⟩ okz kz (by rw [List.length_take]; omega) fun d hd => by rw [kz]; exact m6 d (List.mem_of_mem_take hd)
      obtain ⟨d, e, _, c', u', g3, g4, g5⟩ := hae i (.ref t) (by rw [List.getElem?_map, g1]; rfl)
      have ed : t = d := V.ref.inj e
      subst ed
      rw [List.getElem?_zip_eq_some] at g2
      rw [g3, g4] at g2
      have e1 := Option.some.inj g2.1
      have e2 := Option.some.inj g2.2
      rw [← e1, ← e2]
      exact tup_of ((r1.trans r2) _ _ g5)
set_option maxHeartbeats 8000000 in
theorem c_law_spoil (T : Facts K mg) : C8.Cal P w K mg base 1 "_law_spoil" (spSpoil K) [] := by
  refine cal T.d_law_spoil sc_law_spoil (fun vs H Q E h => ?_) (fun f cdv A outer s H vs Q E hr h => ?_)
  · obtain ⟨b, f0, rs, sp, pl, sg, rfl, _⟩ := h
    rfl
  · obtain ⟨b, f0, rs, sp, pl, sg, rfl, hb, ok, fl, fm, rpos, sp0, sp3, q⟩ := h
    obtain ⟨tt, ht, hq⟩ := spoil_tail T f cdv A outer s H E { nx := fun _ H' => Q .non H', rt := Q } hr
    refine ⟨_, (pss_cons (ps_set (i := 4) sc_law_spoil.nd rfl (Or.inr rfl) (pe_lc (own := [("_law_rule", 11)]) (g := gName 11) (tt := tYes) rfl sc_law_spoil.nd (pi_tup (pe_ix (r := rIxT K) ix_tup (pv 0) pe_int (fun _ _ => rfl))) (blkOk_by (N := ["_law_book", "_law_spoil_here", "_law_at", "_law_sign", "_law_signs_here", "_law_fresh", "_law_texts", "_law_which", "_law_old", "_law_place", "_law_rules", "_law_rule", "_law_k"]) (sc := defScope s_law_spoil) (by decide +kernel)) (fun _ _ _ _ _ => pg_name (i := 11) sc_law_spoil.nd rfl (Or.inl rfl)) (fun _ _ _ _ _ => pts_nil) (fun _ _ _ _ _ => (pe_ix (r := rIxT K) ix_tup (pv 11) pe_int (fun _ _ => rfl)))))
      (pss_cons (ps_set (i := 5) sc_law_spoil.nd rfl (Or.inl rfl) (pe_ix (r := rIxL K) ix_list (pv 4) (pe_op op_modN (pv 3) (pe_callB call_len_seq (by rfl) T.b_len PySem.boot_len (pa_cons (pv 4) pa_nil))) (fun _ _ => rfl)))
      (pss_cons (ps_set (i := 6) sc_law_spoil.nd rfl (Or.inr rfl) (pe_op op_cat (pe_lc (own := [("_law_rule", 11)]) (g := gName 11) (tt := tYes) rfl sc_law_spoil.nd (pi_tup (pe_ix (r := rIxT K) ix_tup (pv 0) pe_int (fun _ _ => rfl))) (blkOk_by (N := ["_law_book", "_law_spoil_here", "_law_at", "_law_sign", "_law_signs_here", "_law_fresh", "_law_texts", "_law_which", "_law_old", "_law_place", "_law_rules", "_law_rule", "_law_k"]) (sc := defScope s_law_spoil) (by decide +kernel)) (fun _ _ _ _ _ => pg_name (i := 11) sc_law_spoil.nd rfl (Or.inl rfl)) (fun _ _ _ _ _ => pts_nil) (fun _ _ _ _ _ => (pe_ix (r := rIxT K) ix_tup (pv 11) pe_int (fun _ _ => rfl)))) (pe_lst (pa_cons (pe_ix (r := rIxT K) ix_tup (pv 0) pe_int (fun _ _ => rfl)) pa_nil))))
      (pss_cons (ps_set (i := 7) sc_law_spoil.nd rfl (Or.inl rfl) (pe_op op_modN (pv 2) (pe_callB call_len_seq (by rfl) T.b_len PySem.boot_len (pa_cons (pv 6) pa_nil))))
      (pss_cons (ps_set (i := 8) sc_law_spoil.nd rfl (Or.inl rfl) (pe_ix (r := rIxL K) ix_list (pv 6) (pv 7) (fun _ _ => rfl)))
      (pss_cons (ps_set (i := 9) sc_law_spoil.nd rfl (Or.inl rfl) (pe_op op_modN (pe_op op_fdivW (pv 2) (pe_callB call_len_seq (by rfl) T.b_len PySem.boot_len (pa_cons (pv 6) pa_nil))) (pe_op op_add (pe_callB call_len_str (by rfl) T.b_len PySem.boot_len (pa_cons (pv 8) pa_nil)) pe_int)))
      (pss_cons (ps_if (pt_cmpR op_eq (pv 1) pe_int (nomark _))
      (pss_one (ps_asg (pe_op op_add_str (pe_op op_add_str (pe_slice (r := rSlS) sl_str (pv 8) po_none (po_some (pv 9))) (pv 5)) (pe_slice (r := rSlS) sl_str (pv 8) (po_some (pe_op op_add (pv 9) pe_int)) po_none)) (pg_sub (pv 6) (pv 7) set_list)))
      pss_nil)
      (pss_cons (ps_if (pt_cmpR op_eq (pv 1) pe_int (nomark _))
      (pss_one (ps_asg (pe_op op_add_str (pe_slice (r := rSlS) sl_str (pv 8) po_none (po_some (pv 9))) (pe_slice (r := rSlS) sl_str (pv 8) (po_some (pe_op op_add (pv 9) pe_int)) po_none)) (pg_sub (pv 6) (pv 7) set_list)))
      pss_nil)
      (pss_cons (ps_if (PW.pt (pw_and (pt_cmpR op_eq (pv 1) pe_int (nomark _)) (pw_and1 (pt_cmpR op_lt (pe_callB call_len_str (by rfl) T.b_len PySem.boot_len (pa_cons (pv 8) pa_nil)) pe_int (nomark _)))))
      (pss_one (ps_asg (pe_op op_add_str (pe_op op_add_str (pe_slice (r := rSlS) sl_str (pv 8) po_none (po_some (pv 9))) (pv 5)) (pe_slice (r := rSlS) sl_str (pv 8) (po_some (pv 9)) po_none)) (pg_sub (pv 6) (pv 7) set_list)))
      pss_nil)
      (pss_cons (ps_if (pt_cmpR op_eq (pv 1) pe_int (nomark _))
      (pss_one (ps_asg (pe_revS (pv 8)) (pg_sub (pv 6) (pv 7) set_list)))
      pss_nil)
      ht)))))))))), ?_⟩
    obtain ⟨a, r, rfl, ha, ts, ht, hl, hi⟩ := hb
    have h8 := ok.len
    have hkl : (keysOf rs).length = rs.length := by
      unfold keysOf
      rw [List.length_map]
    have hlr : (ts.map V.ref).length = rs.length := by rw [List.length_map, hl]
    refine ⟨.ref a, rfl, a, _, 1, .ref r, rfl, rfl, ha, at1, r, rfl, ⟨_, ht⟩, fun D nD => ?_⟩
    refine lcn_val (walk_tup (xs := ts.map V.ref)) (fun i => tv [((keysOf rs)[i]?).getD 0]) (by omega) nD (fun H' sm => same_tup sm ht) (fun _ => rfl) (fun i x H' H'' Qc hlt sm y qc => ?_) (fun H1 s1 hD => ?_)
    · obtain ⟨rfl, hx⟩ := y
      rw [List.getElem?_map, Option.map_eq_some_iff] at hx
      obtain ⟨t, hx, rfl⟩ := hx
      have hp : rs[i]? = some (rs[i]'(by omega)) := List.getElem?_eq_getElem (by omega)
      refine ⟨_, rfl, t, _, 0, tv [(rs[i]'(by omega)).1], rfl, rfl, same_tup sm (hi i t _ hx hp), at0, ?_⟩
      have := qc H'' (Same.refl _)
      rw [keys_get hp] at this
      exact this
    have eD : ((List.range (ts.map V.ref).length).map fun i => tv [((keysOf rs)[i]?).getD 0]) = lettV (keysOf rs) := by
      rw [hlr, ← hkl]
      exact range_get _ _ _ fun i c hc => by rw [hc]; rfl
    rw [eD] at hD
    -- the fresh letter
    obtain ⟨g1, g2⟩ := fmod_rng sg (b := ((lettV (keysOf rs)).length : Int)) (by rw [List.length_map]; omega)
    obtain ⟨j, hj⟩ : ∃ j : Nat, sg.fmod ((lettV (keysOf rs)).length : Int) = (j : Int) := ⟨_, (Int.toNat_of_nonneg g1).symm⟩
    have hjl : j < (keysOf rs).length := by
      rw [List.length_map] at g2 hj
      omega
    have hc : (keysOf rs)[j]? = some ((keysOf rs)[j]'hjl) := List.getElem?_eq_getElem hjl
    generalize ((keysOf rs)[j]'hjl) = c at hc
    have hcm := get_mem hc
    refine ⟨_, rfl, _, rfl, _, rfl, D, _, rfl, .inl (lst_of hD), _, _, rfl, rfl, by rw [List.length_map]; omega, D, _, _, _, rfl, rfl, lst_of hD, at_of hj (lettV_get hc), ?_⟩
    -- the texts
    refine ⟨.ref a, rfl, a, _, 1, .ref r, rfl, rfl, same_tup s1 ha, at1, r, rfl, ⟨_, same_tup s1 ht⟩, fun D2 nD2 => ?_⟩
    refine lcn_val (walk_tup (xs := ts.map V.ref)) (fun i => tv (((rs.map (·.2))[i]?).getD [])) (by omega) nD2 (fun H' sm => same_tup (s1.trans sm) ht) (fun _ => rfl) (fun i x H' H'' Qc hlt sm y qc => ?_) (fun H2 s2 hD2 => ?_)
    · obtain ⟨rfl, hx⟩ := y
      rw [List.getElem?_map, Option.map_eq_some_iff] at hx
      obtain ⟨t, hx, rfl⟩ := hx
      have hp : rs[i]? = some (rs[i]'(by omega)) := List.getElem?_eq_getElem (by omega)
      refine ⟨_, rfl, t, _, 1, tv (rs[i]'(by omega)).2, rfl, rfl, same_tup (s1.trans sm) (hi i t _ hx hp), at1, ?_⟩
      have := qc H'' (Same.refl _)
      rw [List.getElem?_map, hp] at this
      exact this
    have eD2 : ((List.range (ts.map V.ref).length).map fun i => tv (((rs.map (·.2))[i]?).getD [])) = txV (rs.map (·.2)) := by
      rw [hlr, show rs.length = (rs.map (·.2)).length by rw [List.length_map]]
      exact range_get _ _ _ fun i c hc => by rw [hc]; rfl
    rw [eD2] at hD2
    have s02 := s1.trans s2
    refine ⟨.ref a, rfl, a, _, 0, tv f0, rfl, rfl, same_tup s02 ha, at0, by show 1 ≤ sizeLine; decide, fun D3 n3 => ?_⟩
    have v3 := same_new (o := .lst [tv f0]) n3
    refine ⟨D2, D3, txV (rs.map (·.2)), [tv f0], rfl, rfl, v3 _ _ hD2, upd_same, small (by rw [List.length_map, List.length_map]; show _ + 1 ≤ _; omega), fun X nX => ?_⟩
    have v4 := same_new (o := .lst (txV (rs.map (·.2)) ++ [tv f0])) nX
    have etx : txV (rs.map (·.2)) ++ [tv f0] = txV (rs.map (·.2) ++ [f0]) := by
      rw [txV, txV, List.map_append]
      rfl
    have hX : (upd (upd H2 D3 (.lst [tv f0])) X (.lst (txV (rs.map (·.2)) ++ [tv f0]))) X = some (.lst (txV (rs.map (·.2) ++ [f0]))) := by rw [upd_same, etx]
    have s04 := (s02.trans v3).trans v4
    have hD4 := ((s2.trans v3).trans v4) _ _ hD
    have nX0 : H X = none := by
      cases hx : H X with
      | none => rfl
      | some o =>
        rw [(s02.trans v3) _ _ hx] at nX
        cases nX
    have XD : X ≠ D := fun z => by
      rw [z, (s2.trans v3) _ _ hD] at nX
      cases nX
    generalize upd (upd H2 D3 (.lst [tv f0])) X (.lst (txV (rs.map (·.2)) ++ [tv f0])) = H4 at hX s04 hD4
    have ltx : (rs.map (·.2) ++ [f0]).length = rs.length + 1 := by
      rw [List.length_append, List.length_map]
      rfl
    have okt : ∀ (i : Nat) (t : Tx), (rs.map (·.2) ++ [f0])[i]? = some t → t.length ≤ 12 ∧ (∀ d ∈ t, d ∈ keysOf rs) ∧ (i < rs.length → t.length ≤ 6) := fun i t h => by
      by_cases hi2 : i < rs.length
      · rw [List.getElem?_append_left (by rw [List.length_map]; exact hi2), List.getElem?_map, Option.map_eq_some_iff] at h
        obtain ⟨u, hu, rfl⟩ := h
        have := ok.word u (get_mem hu)
        exact ⟨by omega, this.2, fun _ => this.1⟩
      · have h1 := (List.getElem?_eq_some_iff.mp h).1
        rw [ltx] at h1
        have e : i = rs.length := by omega
        subst e
        rw [List.getElem?_append_right (by rw [List.length_map]; exact Nat.le_refl _), List.length_map, Nat.sub_self] at h
        have e2 : f0 = t := Option.some.inj h
        rw [← e2]
        exact ⟨fl, fm, fun h => absurd h (Nat.lt_irrefl _)⟩
    generalize htx : rs.map (·.2) ++ [f0] = tx at hX ltx okt
    -- which
    obtain ⟨g3, g4⟩ := fmod_rng pl (b := ((txV tx).length : Int)) (by rw [List.length_map]; omega)
    obtain ⟨k, hk⟩ : ∃ k : Nat, pl.fmod ((txV tx).length : Int) = (k : Int) := ⟨_, (Int.toNat_of_nonneg g3).symm⟩
    have hkl2 : k < tx.length := by
      rw [List.length_map] at g4 hk
      omega
    refine ⟨_, rfl, _, rfl, X, _, rfl, .inl (lst_of hX), _, _, rfl, rfl, by rw [List.length_map]; omega, ?_⟩
    rw [show ((fun (i j : Int) => V.int (i.fmod j)) pl ((txV tx).length : Int)) = V.int (k : Int) from congrArg V.int hk]
    have hold : tx[k]? = some (tx[k]'hkl2) := List.getElem?_eq_getElem hkl2
    generalize (tx[k]'hkl2) = old at hold
    obtain ⟨ol, om, o6⟩ := okt k old hold
    refine ⟨_, rfl, _, rfl, X, _, _, _, rfl, rfl, lst_of hX, at_of rfl (tx_get hold), ?_⟩
    refine ⟨_, rfl, _, rfl, X, _, rfl, .inl (lst_of hX), _, _, rfl, rfl, wide_div (b := 20) (by rw [List.length_map]; omega) (by rw [List.length_map]; omega) (by decide) (by decide), _, rfl, S old, rfl, small (by rw [S_len]; omega), _, _, rfl, rfl, _, _, rfl, rfl, by rw [S_len]; omega, ?_⟩
    obtain ⟨g5, g6⟩ := fmod_rng (pl / ((txV tx).length : Int)) (b := ((S old).length : Int) + 1) (by omega)
    obtain ⟨qq, hqq⟩ : ∃ q : Nat, (pl / ((txV tx).length : Int)).fmod (((S old).length : Int) + 1) = (q : Int) := ⟨_, (Int.toNat_of_nonneg g5).symm⟩
    rw [show ((fun (i j : Int) => V.int (i.fmod j)) (pl / ((txV tx).length : Int)) (((S old).length : Int) + 1)) = V.int (qq : Int) from congrArg V.int hqq]
    have hql : qq ≤ old.length := by
      rw [hqq, S_len] at g6
      omega
    have hsp : sp = 0 ∨ sp = 1 ∨ sp = 2 ∨ sp = 3 := by omega
    clear g5 g6 hqq g3 g4 hk g1 g2 hj nX nD nD2
    have hset : ∀ u : Tx, (∀ d ∈ u, d ∈ keysOf rs) → u.length ≤ 13 → ∀ (i : Nat) (t : Tx), (tx.set k u)[i]? = some t → t.length ≤ 13 ∧ (∀ d ∈ t, d ∈ keysOf rs) ∧ (i < rs.length → i ≠ k → t.length ≤ 6) ∧ (i = k → t = u) := fun u um ul i t h => by
      by_cases e : k = i
      · subst e
        rw [List.getElem?_set_self hkl2] at h
        have e2 : u = t := Option.some.inj h
        subst e2
        exact ⟨ul, um, fun _ n => absurd rfl n, fun _ => rfl⟩
      · rw [List.getElem?_set_ne e] at h
        have := okt i t h
        exact ⟨by omega, this.2.1, fun g _ => this.2.2 g, fun g => absurd g.symm e⟩
    have htl : ∀ u : Tx, (tx.set k u).length = rs.length + 1 := fun u => by rw [List.length_set, ltx]
    rcases hsp with rfl | rfl | rfl | rfl
    · skip
      refine ⟨_, rfl, rfl, _, rfl, ?_⟩
      rw [eqv_yes]
      refine iteT ?_
      refine ⟨_, rfl, _, rfl, _, rfl, S old, rfl, small (by rw [S_len]; omega), ?_⟩
      rw [cutS_to]
      refine ⟨_, rfl, _, _, rfl, rfl, sz2 (by rw [List.length_take]; show _ + 1 ≤ _; omega), ?_⟩
      rw [append_str]
      refine ⟨_, rfl, _, rfl, _, _, rfl, rfl, _, rfl, S old, rfl, small (by rw [S_len]; omega), ?_⟩
      rw [show ((qq : Int) + 1) = ((qq + 1 : Nat) : Int) from rfl, cutS_from]
      refine ⟨_, _, rfl, rfl, sz2 (by simp only [List.length_append, List.length_take, List.length_drop, List.length_cons, List.length_nil]; omega), ?_⟩
      rw [append_str]
      refine ⟨_, rfl, _, rfl, X, _, _, k, rfl, rfl, hX, Evl.ixN_nat (by rw [List.length_map]; exact hkl2), ?_⟩
      obtain ⟨u, hu⟩ : ∃ u : Tx, old.take qq ++ [c] ++ old.drop (qq + 1) = u := ⟨_, rfl⟩
      have um : ∀ d ∈ u, d ∈ keysOf rs := by
        rw [← hu]
        exact in_app (in_app (fun d hd => om d (List.mem_of_mem_take hd)) (in_one hcm)) (fun d hd => om d (List.mem_of_mem_drop hd))
      have ul : u.length ≤ 13 := by
        rw [← hu]
        simp only [List.length_append, List.length_take, List.length_drop, List.length_cons, List.length_nil, List.length_reverse]; omega
      rw [hu]
      have s05 : Same H (upd H4 X (.lst ((txV tx).set k (tv u)))) := same_mut s04 nX0
      have hD5 : (upd H4 X (.lst ((txV tx).set k (tv u)))) D = some (.lst (lettV (keysOf rs))) := by rw [upd_ne XD.symm]; exact hD4
      have hX5 : (upd H4 X (.lst ((txV tx).set k (tv u)))) X = some (.lst (txV (tx.set k u))) := by rw [upd_same, txV_set]
      generalize upd H4 X (.lst ((txV tx).set k (tv u))) = H5 at s05 hD5 hX5
      refine ⟨_, rfl, rfl, _, rfl, ?_⟩
      rw [eqv_no (by decide)]
      refine iteF ?_
      refine ⟨_, rfl, rfl, _, rfl, ?_⟩
      rw [eqv_no (by decide)]
      refine iteF ?_
      refine iteF ?_
      refine ⟨_, rfl, rfl, _, rfl, ?_⟩
      rw [eqv_no (by decide)]
      refine iteF ?_
      exact hq _ _ _ _ _ _ D X k old u rs (tx.set k u) H H5 hD5 hX5 nX0 XD (htl u) (List.getElem?_set_self hkl2) (fun i t h => ⟨(hset u um ul i t h).1, (hset u um ul i t h).2.1, (hset u um ul i t h).2.2.1⟩) ol om o6 ok s05 q
    · skip
      refine ⟨_, rfl, rfl, _, rfl, ?_⟩
      rw [eqv_no (by decide)]
      refine iteF ?_
      refine ⟨_, rfl, rfl, _, rfl, ?_⟩
      rw [eqv_yes]
      refine iteT ?_
      refine ⟨_, rfl, _, rfl, _, rfl, S old, rfl, small (by rw [S_len]; omega), ?_⟩
      rw [cutS_to]
      refine ⟨_, rfl, _, rfl, _, _, rfl, rfl, _, rfl, S old, rfl, small (by rw [S_len]; omega), ?_⟩
      rw [show ((qq : Int) + 1) = ((qq + 1 : Nat) : Int) from rfl, cutS_from]
      refine ⟨_, _, rfl, rfl, sz2 (by simp only [List.length_append, List.length_take, List.length_drop, List.length_cons, List.length_nil]; omega), ?_⟩
      rw [append_str]
      refine ⟨_, rfl, _, rfl, X, _, _, k, rfl, rfl, hX, Evl.ixN_nat (by rw [List.length_map]; exact hkl2), ?_⟩
      obtain ⟨u, hu⟩ : ∃ u : Tx, old.take qq ++ old.drop (qq + 1) = u := ⟨_, rfl⟩
      have um : ∀ d ∈ u, d ∈ keysOf rs := by
        rw [← hu]
        exact in_app (fun d hd => om d (List.mem_of_mem_take hd)) (fun d hd => om d (List.mem_of_mem_drop hd))
      have ul : u.length ≤ 13 := by
        rw [← hu]
        simp only [List.length_append, List.length_take, List.length_drop, List.length_cons, List.length_nil, List.length_reverse]; omega
      rw [hu]
      have s05 : Same H (upd H4 X (.lst ((txV tx).set k (tv u)))) := same_mut s04 nX0
      have hD5 : (upd H4 X (.lst ((txV tx).set k (tv u)))) D = some (.lst (lettV (keysOf rs))) := by rw [upd_ne XD.symm]; exact hD4
      have hX5 : (upd H4 X (.lst ((txV tx).set k (tv u)))) X = some (.lst (txV (tx.set k u))) := by rw [upd_same, txV_set]
      generalize upd H4 X (.lst ((txV tx).set k (tv u))) = H5 at s05 hD5 hX5
      refine ⟨_, rfl, rfl, _, rfl, ?_⟩
      rw [eqv_no (by decide)]
      refine iteF ?_
      refine iteF ?_
      refine ⟨_, rfl, rfl, _, rfl, ?_⟩
      rw [eqv_no (by decide)]
      refine iteF ?_
      exact hq _ _ _ _ _ _ D X k old u rs (tx.set k u) H H5 hD5 hX5 nX0 XD (htl u) (List.getElem?_set_self hkl2) (fun i t h => ⟨(hset u um ul i t h).1, (hset u um ul i t h).2.1, (hset u um ul i t h).2.2.1⟩) ol om o6 ok s05 q
    · skip
      refine ⟨_, rfl, rfl, _, rfl, ?_⟩
      rw [eqv_no (by decide)]
      refine iteF ?_
      refine ⟨_, rfl, rfl, _, rfl, ?_⟩
      rw [eqv_no (by decide)]
      refine iteF ?_
      refine ⟨_, rfl, rfl, _, rfl, ?_⟩
      rw [eqv_yes]
      refine iteT ?_
      refine ⟨_, rfl, S old, rfl, small (by rw [S_len]; omega), _, _, rfl, rfl, _, rfl, ite2 (fun e => ?_) (fun e => ?_)⟩
      have e5 : old.length < 6 := by
        have := of_decide_eq_true e
        rw [S_len] at this
        omega
      · skip
        refine ⟨_, rfl, _, rfl, _, rfl, S old, rfl, small (by rw [S_len]; omega), ?_⟩
        rw [cutS_to]
        refine ⟨_, rfl, _, _, rfl, rfl, sz2 (by rw [List.length_take]; show _ + 1 ≤ _; omega), ?_⟩
        rw [append_str]
        refine ⟨_, rfl, _, rfl, _, rfl, S old, rfl, small (by rw [S_len]; omega), ?_⟩
        rw [cutS_from]
        refine ⟨_, _, rfl, rfl, sz2 (by simp only [List.length_append, List.length_take, List.length_drop, List.length_cons, List.length_nil]; omega), ?_⟩
        rw [append_str]
        refine ⟨_, rfl, _, rfl, X, _, _, k, rfl, rfl, hX, Evl.ixN_nat (by rw [List.length_map]; exact hkl2), ?_⟩
        obtain ⟨u, hu⟩ : ∃ u : Tx, old.take qq ++ [c] ++ old.drop qq = u := ⟨_, rfl⟩
        have um : ∀ d ∈ u, d ∈ keysOf rs := by
          rw [← hu]
          exact in_app (in_app (fun d hd => om d (List.mem_of_mem_take hd)) (in_one hcm)) (fun d hd => om d (List.mem_of_mem_drop hd))
        have ul : u.length ≤ 13 := by
          rw [← hu]
          simp only [List.length_append, List.length_take, List.length_drop, List.length_cons, List.length_nil, List.length_reverse]; omega
        rw [hu]
        have s05 : Same H (upd H4 X (.lst ((txV tx).set k (tv u)))) := same_mut s04 nX0
        have hD5 : (upd H4 X (.lst ((txV tx).set k (tv u)))) D = some (.lst (lettV (keysOf rs))) := by rw [upd_ne XD.symm]; exact hD4
        have hX5 : (upd H4 X (.lst ((txV tx).set k (tv u)))) X = some (.lst (txV (tx.set k u))) := by rw [upd_same, txV_set]
        generalize upd H4 X (.lst ((txV tx).set k (tv u))) = H5 at s05 hD5 hX5
        refine ⟨_, rfl, rfl, _, rfl, ?_⟩
        rw [eqv_no (by decide)]
        refine iteF ?_
        exact hq _ _ _ _ _ _ D X k old u rs (tx.set k u) H H5 hD5 hX5 nX0 XD (htl u) (List.getElem?_set_self hkl2) (fun i t h => ⟨(hset u um ul i t h).1, (hset u um ul i t h).2.1, (hset u um ul i t h).2.2.1⟩) ol om o6 ok s05 q
      · skip
        obtain ⟨u, hu⟩ : ∃ u : Tx, old = u := ⟨_, rfl⟩
        have um : ∀ d ∈ u, d ∈ keysOf rs := by
          rw [← hu]
          exact om
        have ul : u.length ≤ 13 := by
          rw [← hu]
          omega
        have s05 := s04
        have hD5 := hD4
        have hX5 : H4 X = some (.lst (txV (tx.set k u))) := by
          rw [hX, ← hu]
          have : tx.set k old = tx := by
            obtain ⟨h1, h2⟩ := List.getElem?_eq_some_iff.mp hold
            rw [← h2, List.set_getElem_self]
          rw [this]
        generalize H4 = H5 at s05 hD5 hX5
        refine ⟨_, rfl, rfl, _, rfl, ?_⟩
        rw [eqv_no (by decide)]
        refine iteF ?_
        exact hq _ _ _ _ _ _ D X k old u rs (tx.set k u) H H5 hD5 hX5 nX0 XD (htl u) (List.getElem?_set_self hkl2) (fun i t h => ⟨(hset u um ul i t h).1, (hset u um ul i t h).2.1, (hset u um ul i t h).2.2.1⟩) ol om o6 ok s05 q
    · skip
      refine ⟨_, rfl, rfl, _, rfl, ?_⟩
      rw [eqv_no (by decide)]
      refine iteF ?_
      refine ⟨_, rfl, rfl, _, rfl, ?_⟩
      rw [eqv_no (by decide)]
      refine iteF ?_
      refine ⟨_, rfl, rfl, _, rfl, ?_⟩
      rw [eqv_no (by decide)]
      refine iteF ?_
      refine iteF ?_
      refine ⟨_, rfl, rfl, _, rfl, ?_⟩
      rw [eqv_yes]
      refine iteT ?_
      refine ⟨_, rfl, S old, rfl, small (by rw [S_len]; omega), ?_⟩
      rw [show V.str ⟨(S old).cps.toList.reverse.toArray⟩ = tv old.reverse from rfl]
      refine ⟨_, rfl, _, rfl, X, _, _, k, rfl, rfl, hX, Evl.ixN_nat (by rw [List.length_map]; exact hkl2), ?_⟩
      obtain ⟨u, hu⟩ : ∃ u : Tx, old.reverse = u := ⟨_, rfl⟩
      have um : ∀ d ∈ u, d ∈ keysOf rs := by
        rw [← hu]
        exact fun d hd => om d (List.mem_reverse.mp hd)
      have ul : u.length ≤ 13 := by
        rw [← hu]
        simp only [List.length_append, List.length_take, List.length_drop, List.length_cons, List.length_nil, List.length_reverse]; omega
      rw [hu]
      have s05 : Same H (upd H4 X (.lst ((txV tx).set k (tv u)))) := same_mut s04 nX0
      have hD5 : (upd H4 X (.lst ((txV tx).set k (tv u)))) D = some (.lst (lettV (keysOf rs))) := by rw [upd_ne XD.symm]; exact hD4
      have hX5 : (upd H4 X (.lst ((txV tx).set k (tv u)))) X = some (.lst (txV (tx.set k u))) := by rw [upd_same, txV_set]
      generalize upd H4 X (.lst ((txV tx).set k (tv u))) = H5 at s05 hD5 hX5
      exact hq _ _ _ _ _ _ D X k old u rs (tx.set k u) H H5 hD5 hX5 nX0 XD (htl u) (List.getElem?_set_self hkl2) (fun i t h => ⟨(hset u um ul i t h).1, (hset u um ul i t h).2.1, (hset u um ul i t h).2.2.1⟩) ol om o6 ok s05 q
end
end Lg
/-! law walked -/
namespace Lg
open PySem PySem.Spec PyProof.Rows L2
theorem eqv_yes' (a : Int) : decide (V.int a = V.int a) = true := decide_eq_true rfl
theorem get_mem' {α : Type} {l : List α} {i : Nat} {x : α} (h : l[i]? = some x) : x ∈ l := List.mem_of_getElem? h
theorem streq_no {a b : Str} (n : a ≠ b) : decide (V.str a = V.str b) = false := decide_eq_false fun h => n (V.str.inj h)
theorem streq_yes (a : Str) : decide (V.str a = V.str a) = true := decide_eq_true rfl
section
variable {P : Program} {w : World} {K : PySem.W.Frag} {mg : Str → Option Value} {base : Heap}
abbrev lawN : List Str := ["_law_script", "_law_pen_here", "_law_spoil_here", "_law_at", "_law_sign", "_law_at_age", "_law_great", "_law_one", "_law_other", "_law_groups", "_law_found", "_law_piece", "_law_mine", "_law_theirs"]
theorem law_tail {C : Addr} (T : Facts K mg) (TM : TooF K mg C) (f : Addr) (cdv : Value) (A : Around) (outer : List Env) (s : Shared) (H0 : Hp) (E : XK) (D : Ends) (hr : Room 5 (A.deeper (envOfC "law" (defScope s_law) s.heap.objs.size f cdv))) :
    ∃ tt, PSs (cxOf CX0 P w K mg base lawN "law" (defScope s_law) f cdv A outer s H0 E).nox ((defBody s_law).drop 9) tt ∧
      ∀ (v0 v1 v2 v3 v4 v9 b1 b2 : V) (n : Nat) (g : Int) (f1 f2 : Tx) (r1 r2 : Rls) (H : Hp), BookAt K H b1 f1 r1 → BookAt K H b2 f2 r2 → RlsOk r1 → RlsOk r2 → keysOf r2 = keysOf r1 → f1.length ≤ 12 → f2.length ≤ 12 → (∀ c ∈ f1, c ∈ keysOf r1) → (∀ c ∈ f2, c ∈ keysOf r2) → n ≤ 300 → (∀ H', D.rt (.bl true) H') →
        tt D [some v0, some v1, some v2, some v3, some v4, some (.int (n : Int)), some (.int g), some b1, some b2, some v9, none, none, none, none] H := by
  refine ⟨_, (pss_cons (ps_try_only (tb := fun W => tAsg (tCallS (spRowsAlike K C) (WE W) (tCons (tVar 7) (tCons (tVar 8) tNil))) (gName 10)) (ts := fun _ _ _ => tAsg (tTup (tCons (tC (.str "many")) (tCons (tC (.int 0)) tNil))) (gName 10)) (Wout := fun _ _ _ _ => False) rfl rfl ⟨rfl, by decide, Or.inl TM.gT⟩ takes0
        (fun W pn xe tk _ => pss_one (ps_set (i := 10) sc_law.nd rfl (Or.inl rfl) (pe_cxS (c_rows_alike T TM) hr (by decide) rfl (fun σ => passAt tk σ) (by exact (pa_cons (pv 7) (pa_cons (pv 8) pa_nil))))))
        (fun _ _ _ _ _ _ _ => pss_one (ps_set (i := 10) sc_law.nd rfl (Or.inl rfl) (pe_tup (pa_cons pe_str (pa_cons pe_int pa_nil))))))
      (pss_cons (ps_if (PW.pt (pw_or (pt_not (pt_val (pe_callB call_isi (by rfl) T.b_isinstance (by decide +kernel) (pa_cons (pv 10) (pa_cons (pe_bltn (v := .ty "tuple") (u := .type "tuple") rfl T.b_tuple (by decide +kernel) rfl) pa_nil))))) (pw_or1 (pt_cmpR op_ne (pe_callB call_len_seq (by rfl) T.b_len PySem.boot_len (pa_cons (pv 10) pa_nil)) pe_int (nomark _)))))
      (pss_one (ps_ret pe_bl))
      pss_nil)
      (pss_cons (ps_if (pt_cmpR op_eq (pe_ix (r := rIxT K) ix_tup (pv 10) pe_int (fun _ _ => rfl)) pe_str (nomark _))
      (pss_one (ps_ret (C8.pe_c (c_law_parted T) hr (by decide) rfl (pa_cons (pv 7) (pa_cons (pv 8) (pa_cons (pe_ix (r := rIxT K) ix_tup (pv 10) pe_int (fun _ _ => rfl)) pa_nil))))))
      pss_nil)
      (pss_cons (ps_if (pt_cmpR op_eq (pe_ix (r := rIxT K) ix_tup (pv 10) pe_int (fun _ _ => rfl)) pe_str (nomark _))
      (pss_one (ps_ret pe_bl))
      pss_nil)
      (pss_cons (ps_if (PW.pt (pw_or (pt_cmpR op_ne (pe_ix (r := rIxT K) ix_tup (pv 10) pe_int (fun _ _ => rfl)) pe_str (nomark _)) (pw_or1 (pt_not (pt_val (pe_callB call_isi (by rfl) T.b_isinstance (by decide +kernel) (pa_cons (pe_ix (r := rIxT K) ix_tup (pv 10) pe_int (fun _ _ => rfl)) (pa_cons (pe_bltn (v := .ty "list") (u := .type "list") rfl T.b_list (by decide +kernel) rfl) pa_nil))))))))
      (pss_one (ps_ret pe_bl))
      pss_nil)
      (pss_cons (ps_if (pt_not (pt_val (C8.pe_c (c_law_same T) hr (by decide) rfl (pa_cons (pv 7) (pa_cons (pv 8) (pa_cons (pv 5) (pa_cons (pv 6) pa_nil)))))))
      (pss_one (ps_ret pe_bl))
      pss_nil)
      (pss_cons (ps_for PassesOwn.never rfl (pi_list (pe_ix (r := rIxT K) ix_tup (pv 10) pe_int (fun _ _ => rfl))) (pg_name (i := 11) sc_law.nd rfl (Or.inl rfl))
      (pss_cons (ps_set (i := 12) sc_law.nd rfl (Or.inl rfl) (pe_tup (pa_cons (pv 11) (pa_cons (pe_ix (r := rIxT K) ix_tup (pv 7) pe_int (fun _ _ => rfl)) pa_nil))))
        (pss_cons (ps_set (i := 13) sc_law.nd rfl (Or.inl rfl) (pe_tup (pa_cons (pv 11) (pa_cons (pe_ix (r := rIxT K) ix_tup (pv 8) pe_int (fun _ _ => rfl)) pa_nil))))
        (pss_one (ps_if (PW.pt (pw_and (pt_cmpR op_le (pe_callB call_len_str (by rfl) T.b_len PySem.boot_len (pa_cons (pv 11) pa_nil)) pe_int (nomark _)) (pw_and1 (pt_not (pt_val (C8.pe_c (c_law_same T) hr (by decide) rfl (pa_cons (pv 12) (pa_cons (pv 13) (pa_cons (pe_op op_modN (pv 5) pe_int) (pa_cons (pv 6) pa_nil))))))))))
        (pss_one (ps_ret pe_bl))
        pss_nil)))))
      (pss_one (ps_ret pe_bl))))))))), fun v0 v1 v2 v3 v4 v9 b1 b2 n g f1 f2 r1 r2 H k1 k2 o1 o2 hk l1 l2 m1 m2 hn q => ?_⟩
  have A1 : Asked K H b1 f1 r1 n := ⟨k1, o1, hn, by omega, m1⟩
  have A2 : Asked K H b2 f2 r2 n := ⟨k2, o2, hn, by omega, m2⟩
  refine ⟨_, rfl, _, rfl, b1, b2, f1, f2, r1, r2, rfl, k1, k2, o1, o2, hk, l1, l2, m1, m2, fun H1 s1 => ⟨true, TM.eT, fun _ a ha => ?_, fun q => nomatch q⟩, fun H1 R n' s1 hR he => ?_, fun H1 R pz Ps s1 hR hp al => ?_⟩
  · refine ⟨by show 2 ≤ sizeLine; decide, fun R nR => ?_⟩
    have hR : (upd H1 R (.tup [.str "many", .int 0])) R = some (.tup [.str "many", .int 0]) := upd_same
    refine ⟨_, rfl, .ref R, .ty "tuple", .type "tuple", .type "tuple", true, rfl, .ty "tuple", .base (.tup hR), kit_ty (by decide +kernel), true, rfl, ?_⟩
    refine iteF ?_
    refine ⟨_, rfl, R, _, rfl, .inr (tup_of hR), rfl, false, congrArg V.bl (congrArg not (decide_eq_true rfl)), ?_⟩
    refine iteF ?_
    refine ⟨_, rfl, R, _, 0, .str "many", rfl, rfl, tup_of hR, at0, rfl, _, rfl, ?_⟩
    rw [streq_no (by decide)]
    refine iteF ?_
    refine ⟨_, rfl, R, _, 0, .str "many", rfl, rfl, tup_of hR, at0, rfl, _, rfl, ?_⟩
    rw [streq_yes]
    refine iteT ?_
    exact q _
  · have hR' := hR
    refine ⟨_, rfl, .ref R, .ty "tuple", .type "tuple", .type "tuple", true, rfl, .ty "tuple", .base (.tup hR), kit_ty (by decide +kernel), true, rfl, ?_⟩
    refine iteF ?_
    refine ⟨_, rfl, R, _, rfl, .inr (tup_of hR), rfl, false, congrArg V.bl (congrArg not (decide_eq_true rfl)), ?_⟩
    refine iteF ?_
    refine ⟨_, rfl, R, _, 0, .str "part", rfl, rfl, tup_of hR, at0, rfl, _, rfl, ?_⟩
    rw [streq_yes]
    refine iteT ?_
    have hn20 := he.1
    refine ⟨_, rfl, _, rfl, _, rfl, R, _, 1, .int (n' : Int), rfl, rfl, tup_of hR, at1, b1, b2, f1, f2, r1, r2, n', rfl, ⟨k1.same s1, o1, by omega, by omega, m1⟩, ⟨k2.same s1, o2, by omega, by omega, m2⟩, he, fun H2 s2 => q H2⟩
  · have hR' := hR
    refine ⟨_, rfl, .ref R, .ty "tuple", .type "tuple", .type "tuple", true, rfl, .ty "tuple", .base (.tup hR), kit_ty (by decide +kernel), true, rfl, ?_⟩
    refine iteF ?_
    refine ⟨_, rfl, R, _, rfl, .inr (tup_of hR), rfl, false, congrArg V.bl (congrArg not (decide_eq_true rfl)), ?_⟩
    refine iteF ?_
    refine ⟨_, rfl, R, _, 0, .str "alike", rfl, rfl, tup_of hR, at0, rfl, _, rfl, ?_⟩
    rw [streq_no (by decide)]
    refine iteF ?_
    refine ⟨_, rfl, R, _, 0, .str "alike", rfl, rfl, tup_of hR, at0, rfl, _, rfl, ?_⟩
    rw [streq_no (by decide)]
    refine iteF ?_
    refine ⟨_, rfl, R, _, 0, .str "alike", rfl, rfl, tup_of hR, at0, rfl, _, rfl, ?_⟩
    rw [streq_yes]
    refine iteF ?_
    refine ⟨_, rfl, R, _, 1, .ref pz, rfl, rfl, tup_of hR, at1, .ref pz, .ty "list", .type "list", .type "list", true, rfl, .ty "list", .base (.lst hp), kit_ty (by decide +kernel), true, rfl, ?_⟩
    refine iteF ?_
    have hturn : ∀ u ∈ Ps, tby (wOf r1) u = tby (wOf r2) u ∧ Cat Ps (tby (wOf r1) u) := fun u hu => ⟨(al.pc u hu).turn, al.turn u hu⟩
    have hrow : rowN (wOf r2) n f2 = rowN (wOf r1) n f1 := by
      rw [← al.eq]
      exact (Cat.rows hturn n al.cat).symm
    refine ⟨_, rfl, _, rfl, _, rfl, _, rfl, b1, b2, f1, f2, r1, r2, n, g, rfl, A1.same s1, A2.same s1, hk, hrow, fun H2 s2 => ⟨true, rfl, ?_⟩⟩
    refine iteF ?_
    have s12 := s1.trans s2
    obtain ⟨a1, t1, rfl, h1, g1⟩ := k1
    obtain ⟨a2, t2, rfl, h2, g2⟩ := k2
    refine ⟨_, rfl, R, _, 1, .ref pz, rfl, rfl, tup_of (s2 _ _ hR), at1, pz, rfl, ⟨_, lst_of (s2 _ _ hp)⟩, ?_⟩
    refine for_it (walk_list (xs := txV Ps)) (fun i σ H' => ∃ y11 y12 y13, σ = [some v0, some v1, some v2, some v3, some v4, some (.int (n : Int)), some (.int g), some (.ref a1), some (.ref a2), some v9, some (.ref R), y11, y12, y13] ∧ Same H2 H')
      ⟨_, _, _, rfl, .refl _⟩ (fun i σ H' _ pp => ?_) (fun i x σ H0' H' hlt pp y => ?_) (fun σ H' pp => ?_)
    · obtain ⟨_, _, _, _, sm⟩ := pp
      exact lst_of (sm _ _ (s2 _ _ hp))
    · obtain ⟨y11, y12, y13, rfl, sm⟩ := pp
      obtain ⟨rfl, hx⟩ := y
      rw [List.getElem?_map, Option.map_eq_some_iff] at hx
      obtain ⟨u, hu, rfl⟩ := hx
      have hum := get_mem' hu
      have pk := al.pc u hum
      have sA := s12.trans sm
      refine ⟨_, rfl, _, rfl, a1, _, 1, .ref t1, rfl, rfl, same_tup sA h1, at1, by show 2 ≤ sizeLine; decide, fun m nm => ?_⟩
      have sm1 := same_new (o := .tup [tv u, .ref t1]) nm
      refine ⟨_, rfl, _, rfl, a2, _, 1, .ref t2, rfl, rfl, same_tup (sA.trans sm1) h2, at1, by show 2 ≤ sizeLine; decide, fun m' nm' => ?_⟩
      have sm2 := same_new (o := .tup [tv u, .ref t2]) nm'
      have ul := pk.len
      refine ⟨_, rfl, S u, rfl, small (by rw [S_len]; omega), _, _, rfl, rfl, _, rfl, ite2 (fun e => ?_) (fun e => ?_)⟩
      · have e12 : u.length ≤ 12 := by
          have := of_decide_eq_true e
          rw [S_len] at this
          omega
        have B1 : Asked K (upd (upd H' m (.tup [tv u, .ref t1])) m' (.tup [tv u, .ref t2])) (.ref m) u r1 (n % 24) := ⟨⟨m, t1, rfl, tup_of (sm2 _ _ upd_same), (g1.same sA).same (sm1.trans sm2)⟩, o1, by omega, by omega, pk.mem⟩
        have B2 : Asked K (upd (upd H' m (.tup [tv u, .ref t1])) m' (.tup [tv u, .ref t2])) (.ref m') u r2 (n % 24) := ⟨⟨m', t2, rfl, tup_of upd_same, (g2.same sA).same (sm1.trans sm2)⟩, o2, by omega, by omega, fun c hc => by rw [hk]; exact pk.mem c hc⟩
        have hr24 : rowN (wOf r2) (n % 24) u = rowN (wOf r1) (n % 24) u := (Cat.rows hturn (n % 24) (Cat.one hum)).symm
        refine ⟨_, rfl, _, rfl, _, rfl, _, _, rfl, rfl, by show (24 : Int) ≠ 0; decide, _, rfl, .ref m, .ref m', u, u, r1, r2, n % 24, g, ?_, B1, B2, hk, hr24, fun H3 s3 => ⟨true, rfl, ?_⟩⟩
        · rw [show ((fun (i j : Int) => V.int (i.fmod j)) (n : Int) 24) = V.int ((n % 24 : Nat) : Int) from congrArg V.int (by rw [Int.fmod_eq_emod_of_nonneg _ (by decide)]; rfl)]
          rfl
        · exact iteF ⟨_, _, _, rfl, ((sm.trans sm1).trans sm2).trans s3⟩
      · exact iteF ⟨_, _, _, rfl, (sm.trans sm1).trans sm2⟩
    · obtain ⟨y11, y12, y13, rfl, sm⟩ := pp
      exact q H'
end
end Lg
/-! law walked, whole -/
namespace Lg
open PySem PySem.Spec PyProof.Rows L2
theorem sameB_same {p : Addr} {H H' : Hp} (e : SameB p H H') (n : H p = none) : Same H H' := fun b o h => e b o (ne_of_none h n) h
section
variable {P : Program} {w : World} {K : PySem.W.Frag} {mg : Str → Option Value} {base : Heap}
def spLaw (K : PySem.W.Frag) : Sp := fun vs H Q _ => ∃ (a : Addr) (ns : List Int), vs = [.ref a] ∧ SqL K H a (ns.map V.int) ∧ ns.length ≤ 63 ∧ ∀ H', Q (.bl true) H'
set_option maxHeartbeats 8000000 in
theorem law_ok {C f : Addr} {fd : FuncData} (F : L2.Fun K "law" "law" s_law f fd) (T : Facts K mg) (TM : TooF K mg C) : FnOk P w K mg base CX0 6 f fd ["_law_script"] (spLaw K) := by
  refine F.ok sc_law (fun vs H Q E h => ?_) (fun cdv A outer s H vs Q E hr h => ?_)
  · obtain ⟨a, ns, rfl, _⟩ := h
    rfl
  · obtain ⟨a, ns, rfl, hs, hl, q⟩ := h
    obtain ⟨tt, ht, hq⟩ := law_tail T TM f cdv A outer s H E { nx := fun _ H' => Q .non H', rt := Q } hr
    refine ⟨_, (pss_cons (ps_set (i := 1) sc_law.nd rfl (Or.inl rfl) (C8.pe_c (c_law_pen T) hr (by decide) rfl (pa_cons (pv 0) (pa_cons pe_int pa_nil))))
      (pss_cons (ps_set (i := 2) sc_law.nd rfl (Or.inl rfl) (C8.pe_c (c_law_take T) hr (by decide) rfl (pa_cons (pv 1) (pa_cons pe_int pa_nil))))
      (pss_cons (ps_set (i := 3) sc_law.nd rfl (Or.inl rfl) (C8.pe_c (c_law_take T) hr (by decide) rfl (pa_cons (pv 1) (pa_cons pe_int pa_nil))))
      (pss_cons (ps_set (i := 4) sc_law.nd rfl (Or.inl rfl) (C8.pe_c (c_law_take T) hr (by decide) rfl (pa_cons (pv 1) (pa_cons pe_int pa_nil))))
      (pss_cons (ps_set (i := 5) sc_law.nd rfl (Or.inl rfl) (C8.pe_c (c_law_take T) hr (by decide) rfl (pa_cons (pv 1) (pa_cons pe_int pa_nil))))
      (pss_cons (ps_if (pt_cmpR op_eq (C8.pe_c (c_law_take T) hr (by decide) rfl (pa_cons (pv 1) (pa_cons pe_int pa_nil))) pe_int (nomark _))
      (pss_one (ps_set (i := 5) sc_law.nd rfl (Or.inl rfl) (C8.pe_c (c_law_take T) hr (by decide) rfl (pa_cons (pv 1) (pa_cons pe_int pa_nil)))))
      pss_nil)
      (pss_cons (ps_set (i := 6) sc_law.nd rfl (Or.inl rfl) (pe_op op_pow (C8.pe_c (c_law_take T) hr (by decide) rfl (pa_cons (pv 1) (pa_cons pe_int pa_nil))) pe_int))
      (pss_cons (ps_if (pt_cmpR op_eq (pe_op op_modN (pv 4) pe_int) pe_int (nomark _))
      (pss_one (ps_asg (C8.pe_c (c_law_long_pair T) hr (by decide) rfl (pa_cons (C8.pe_c (c_law_pen T) hr (by decide) rfl (pa_cons (pv 0) (pa_cons pe_int pa_nil))) pa_nil)) (pg_tup rfl (pgs_cons (pg_name (i := 7) sc_law.nd rfl (Or.inl rfl)) (pgs_cons (pg_name (i := 8) sc_law.nd rfl (Or.inl rfl)) (pgs_cons (pg_name (i := 9) sc_law.nd rfl (Or.inl rfl)) pgs_nil))))))
      (pss_one (ps_asg (C8.pe_c (c_law_pair T) hr (by decide) rfl (pa_cons (C8.pe_c (c_law_pen T) hr (by decide) rfl (pa_cons (pv 0) (pa_cons pe_int pa_nil))) (pa_cons (pe_lst (pa_cons pe_int (pa_cons pe_int (pa_cons pe_int pa_nil)))) pa_nil))) (pg_tup rfl (pgs_cons (pg_name (i := 7) sc_law.nd rfl (Or.inl rfl)) (pgs_cons (pg_name (i := 8) sc_law.nd rfl (Or.inl rfl)) (pgs_cons (pg_name (i := 9) sc_law.nd rfl (Or.inl rfl)) pgs_nil)))))))
      (pss_cons (ps_if (pt_cmpR op_lt (pv 2) pe_int (nomark _))
      (pss_one (ps_set (i := 8) sc_law.nd rfl (Or.inl rfl) (C8.pe_c (c_law_spoil T) hr (by decide) rfl (pa_cons (pv 8) (pa_cons (pv 2) (pa_cons (pv 3) (pa_cons (pv 4) pa_nil)))))))
      pss_nil)
      ht))))))))), ?_⟩
    refine ⟨_, rfl, a, ns, 1, rfl, hs, hl, by decide, fun H1 p s1 n1 pe1 => ?_⟩
    refine ⟨_, rfl, p, 8, _, rfl, pe1, by omega, by decide, by decide, fun H2 v2 sb2 pe2 h20 h21 => ?_⟩
    refine ⟨_, rfl, p, 2147483000, _, rfl, pe2, by omega, by decide, by decide, fun H3 v3 sb3 pe3 h30 h31 => ?_⟩
    refine ⟨_, rfl, p, 8, _, rfl, pe3, by omega, by decide, by decide, fun H4 v4 sb4 pe4 h40 h41 => ?_⟩
    refine ⟨_, rfl, p, 41, _, rfl, pe4, by omega, by decide, by decide, fun H5 v5 sb5 pe5 h50 h51 => ?_⟩
    refine ⟨_, rfl, p, 3, _, rfl, pe5, by omega, by decide, by decide, fun H6 v6 sb6 pe6 h60 h61 => ?_⟩
    have sb16 := ((((sameB_of s1).trans sb2).trans sb3).trans sb4).trans (sb5.trans sb6)
    refine ⟨rfl, _, rfl, ite2 (fun e => ?_) (fun e => ?_)⟩
    · refine ⟨_, rfl, p, 301, _, rfl, pe6, by omega, by decide, by decide, fun H7 v7 sb7 pe7 h70 h71 => ?_⟩
      obtain ⟨n, rfl⟩ : ∃ n : Nat, v7 = (n : Int) := ⟨v7.toNat, by omega⟩
      have hn : n ≤ 300 := by omega
      have s07 : Same H H7 := sameB_same (sb16.trans sb7) n1
      refine ⟨_, rfl, p, 2147483000, _, rfl, pe7, by omega, by decide, by decide, fun H8 v8 sb8 pe8 h80 h81 => ?_⟩
      refine ⟨_, 27, rfl, rfl, ⟨by decide, by decide, by omega⟩, ?_⟩
      have s08 : Same H H8 := fun b o h => sb8 b o (ne_of_none h n1) (s07 b o h)
      refine ⟨_, rfl, _, _, rfl, rfl, by show (2 : Int) ≠ 0; decide, rfl, _, rfl, ite2 (fun e2 => ?_) (fun e2 => ?_)⟩
      · refine ⟨_, rfl, a, ns, 0, rfl, s08.seq hs, hl, by decide, fun H9 p0 s9 n9 pe9 => ⟨p0, 0, rfl, pe9, by omega, fun H10 v10 sb10 pr => ?_⟩⟩
        obtain ⟨R, gA, b1, b2, f0, r1, r2, rfl, hR, k1, k2, o1, o2, hk, fl, fm, rp⟩ := pr
        refine ⟨R, _, rfl, tup_of hR, rfl, b1, [b2, .ref gA], rfl, b2, [.ref gA], rfl, .ref gA, [], rfl, rfl, ?_⟩
        have fm2 : ∀ c ∈ f0, c ∈ keysOf r2 := fun c hc => by
          rw [hk]
          exact fm c hc
        have lk : r2.length = r1.length := by
          have := congrArg List.length hk
          unfold keysOf at this
          rw [List.length_map, List.length_map] at this
          exact this
        refine ⟨_, rfl, _, _, rfl, rfl, _, rfl, ite2 (fun e3 => ?_) (fun e3 => ?_)⟩
        · have e4 := of_decide_eq_true e3
          refine ⟨_, rfl, _, rfl, _, rfl, _, rfl, b2, f0, r2, _, _, _, rfl, k2, o2, fl, fm2, by omega, h20, by omega, fun H11 b' f' rs' s11 k' o' e' l' m' => ?_⟩
          exact hq _ _ _ _ _ _ b1 b' n _ f0 f' r1 rs' H11 (k1.same s11) k' o1 o' (e'.trans hk) fl l' fm m' hn q
        · exact hq _ _ _ _ _ _ b1 b2 n _ f0 f0 r1 r2 H10 k1 k2 o1 o2 hk fl fl fm fm2 hn q
      · refine ⟨_, rfl, a, ns, 0, rfl, s08.seq hs, hl, by decide, fun H9 p0 s9 n9 pe9 => ?_⟩
        refine ⟨by show 3 ≤ sizeLine; decide, fun z nz => ?_⟩
        have zp := pe9.ne nz
        have n9' : upd H9 z (.lst [.int 3, .int 3, .int 2]) = upd H9 z (.lst [.int 3, .int 3, .int 2]) := rfl
        refine ⟨p0, z, 0, rfl, pe9.upd zp, by omega, zp, lst_of upd_same, fun H10 v10 sb10 pr => ?_⟩
        obtain ⟨R, gA, b1, b2, f0, r1, r2, rfl, hR, k1, k2, o1, o2, hk, fl, fm, rp⟩ := pr
        refine ⟨R, _, rfl, tup_of hR, rfl, b1, [b2, .ref gA], rfl, b2, [.ref gA], rfl, .ref gA, [], rfl, rfl, ?_⟩
        have fm2 : ∀ c ∈ f0, c ∈ keysOf r2 := fun c hc => by
          rw [hk]
          exact fm c hc
        have lk : r2.length = r1.length := by
          have := congrArg List.length hk
          unfold keysOf at this
          rw [List.length_map, List.length_map] at this
          exact this
        refine ⟨_, rfl, _, _, rfl, rfl, _, rfl, ite2 (fun e3 => ?_) (fun e3 => ?_)⟩
        · have e4 := of_decide_eq_true e3
          refine ⟨_, rfl, _, rfl, _, rfl, _, rfl, b2, f0, r2, _, _, _, rfl, k2, o2, fl, fm2, by omega, h20, by omega, fun H11 b' f' rs' s11 k' o' e' l' m' => ?_⟩
          exact hq _ _ _ _ _ _ b1 b' n _ f0 f' r1 rs' H11 (k1.same s11) k' o1 o' (e'.trans hk) fl l' fm m' hn q
        · exact hq _ _ _ _ _ _ b1 b2 n _ f0 f0 r1 r2 H10 k1 k2 o1 o2 hk fl fl fm fm2 hn q
    · obtain ⟨n, rfl⟩ : ∃ n : Nat, v5 = (n : Int) := ⟨v5.toNat, by omega⟩
      have hn : n ≤ 300 := by omega
      have s07 : Same H H6 := sameB_same sb16 n1
      have pe7 := pe6
      refine ⟨_, rfl, p, 2147483000, _, rfl, pe7, by omega, by decide, by decide, fun H8 v8 sb8 pe8 h80 h81 => ?_⟩
      refine ⟨_, 27, rfl, rfl, ⟨by decide, by decide, by omega⟩, ?_⟩
      have s08 : Same H H8 := fun b o h => sb8 b o (ne_of_none h n1) (s07 b o h)
      refine ⟨_, rfl, _, _, rfl, rfl, by show (2 : Int) ≠ 0; decide, rfl, _, rfl, ite2 (fun e2 => ?_) (fun e2 => ?_)⟩
      · refine ⟨_, rfl, a, ns, 0, rfl, s08.seq hs, hl, by decide, fun H9 p0 s9 n9 pe9 => ⟨p0, 0, rfl, pe9, by omega, fun H10 v10 sb10 pr => ?_⟩⟩
        obtain ⟨R, gA, b1, b2, f0, r1, r2, rfl, hR, k1, k2, o1, o2, hk, fl, fm, rp⟩ := pr
        refine ⟨R, _, rfl, tup_of hR, rfl, b1, [b2, .ref gA], rfl, b2, [.ref gA], rfl, .ref gA, [], rfl, rfl, ?_⟩
        have fm2 : ∀ c ∈ f0, c ∈ keysOf r2 := fun c hc => by
          rw [hk]
          exact fm c hc
        have lk : r2.length = r1.length := by
          have := congrArg List.length hk
          unfold keysOf at this
          rw [List.length_map, List.length_map] at this
          exact this
        refine ⟨_, rfl, _, _, rfl, rfl, _, rfl, ite2 (fun e3 => ?_) (fun e3 => ?_)⟩
        · have e4 := of_decide_eq_true e3
          refine ⟨_, rfl, _, rfl, _, rfl, _, rfl, b2, f0, r2, _, _, _, rfl, k2, o2, fl, fm2, by omega, h20, by omega, fun H11 b' f' rs' s11 k' o' e' l' m' => ?_⟩
          exact hq _ _ _ _ _ _ b1 b' n _ f0 f' r1 rs' H11 (k1.same s11) k' o1 o' (e'.trans hk) fl l' fm m' hn q
        · exact hq _ _ _ _ _ _ b1 b2 n _ f0 f0 r1 r2 H10 k1 k2 o1 o2 hk fl fl fm fm2 hn q
      · refine ⟨_, rfl, a, ns, 0, rfl, s08.seq hs, hl, by decide, fun H9 p0 s9 n9 pe9 => ?_⟩
        refine ⟨by show 3 ≤ sizeLine; decide, fun z nz => ?_⟩
        have zp := pe9.ne nz
        have n9' : upd H9 z (.lst [.int 3, .int 3, .int 2]) = upd H9 z (.lst [.int 3, .int 3, .int 2]) := rfl
        refine ⟨p0, z, 0, rfl, pe9.upd zp, by omega, zp, lst_of upd_same, fun H10 v10 sb10 pr => ?_⟩
        obtain ⟨R, gA, b1, b2, f0, r1, r2, rfl, hR, k1, k2, o1, o2, hk, fl, fm, rp⟩ := pr
        refine ⟨R, _, rfl, tup_of hR, rfl, b1, [b2, .ref gA], rfl, b2, [.ref gA], rfl, .ref gA, [], rfl, rfl, ?_⟩
        have fm2 : ∀ c ∈ f0, c ∈ keysOf r2 := fun c hc => by
          rw [hk]
          exact fm c hc
        have lk : r2.length = r1.length := by
          have := congrArg List.length hk
          unfold keysOf at this
          rw [List.length_map, List.length_map] at this
          exact this
        refine ⟨_, rfl, _, _, rfl, rfl, _, rfl, ite2 (fun e3 => ?_) (fun e3 => ?_)⟩
        · have e4 := of_decide_eq_true e3
          refine ⟨_, rfl, _, rfl, _, rfl, _, rfl, b2, f0, r2, _, _, _, rfl, k2, o2, fl, fm2, by omega, h20, by omega, fun H11 b' f' rs' s11 k' o' e' l' m' => ?_⟩
          exact hq _ _ _ _ _ _ b1 b' n _ f0 f' r1 rs' H11 (k1.same s11) k' o1 o' (e'.trans hk) fl l' fm m' hn q
        · exact hq _ _ _ _ _ _ b1 b2 n _ f0 f0 r1 r2 H10 k1 k2 o1 o2 hk fl fl fm fm2 hn q
end
end Lg
/-! the end -/
namespace Lg
open PySem PySem.Spec PyProof.Rows L2
theorem exm_self {K : PySem.W.Frag} {S : Addr} (h1 : PySem.W.subIn K (.ref S) (.type "BaseException") = some true) (h2 : PySem.W.isClsIn K S = true) (h3 : PySem.W.typeIn K (.ref S) = some (.type "type")) (h4 : PySem.W.subIn K (.ref S) (.ref S) = some true) :
    PySem.W.exmOne K (.ref S) (.ref S) = some true := by
  have e1 : (PySem.W.subIn K (.ref S) (.type "BaseException") == some true) = true := by rw [h1] <;> rfl
  have e2 : ((PySem.W.clsIn K S).isSome && PySem.W.typeIn K (.ref S) == some (.type "type")) = true := by
    have h2' : (PySem.W.clsIn K S).isSome = true := h2
    rw [h2', h3] <;> rfl
  show (if (PySem.W.subIn K (.ref S) (.type "BaseException") == some true) = true then (if ((PySem.W.clsIn K S).isSome && PySem.W.typeIn K (.ref S) == some (.type "type")) = true then PySem.W.subIn K (.ref S) (.ref S) else none) else none) = some true
  rw [if_pos e1, if_pos e2]
  exact h4
set_option maxHeartbeats 0 in
theorem all_mk {P : Program} {w : World} {K : PySem.W.Frag} {h : Heap} {mg : Str → Option Value} {fa C : Addr} (X : K.In h) (G : h.Ns mainGlobals mg) (hfa : mg "law" = some (.ref fa))
    {f0 : Addr} {od0 an0 : Option Addr} {sl0 : Array (Option Value)} {oc0 kV0 dc0 pm0 cd0 ct0 : Value}
    {f1 : Addr} {od1 an1 : Option Addr} {sl1 : Array (Option Value)} {oc1 kV1 dc1 pm1 cd1 ct1 : Value}
    {f2 : Addr} {od2 an2 : Option Addr} {sl2 : Array (Option Value)} {oc2 kV2 dc2 pm2 cd2 ct2 : Value}
    {f3 : Addr} {od3 an3 : Option Addr} {sl3 : Array (Option Value)} {oc3 kV3 dc3 pm3 cd3 ct3 : Value}
    {f4 : Addr} {od4 an4 : Option Addr} {sl4 : Array (Option Value)} {oc4 kV4 dc4 pm4 cd4 ct4 : Value}
    {f5 : Addr} {od5 an5 : Option Addr} {sl5 : Array (Option Value)} {oc5 kV5 dc5 pm5 cd5 ct5 : Value}
    {f6 : Addr} {od6 an6 : Option Addr} {sl6 : Array (Option Value)} {oc6 kV6 dc6 pm6 cd6 ct6 : Value}
    {f7 : Addr} {od7 an7 : Option Addr} {sl7 : Array (Option Value)} {oc7 kV7 dc7 pm7 cd7 ct7 : Value}
    {f8 : Addr} {od8 an8 : Option Addr} {sl8 : Array (Option Value)} {oc8 kV8 dc8 pm8 cd8 ct8 : Value}
    {f9 : Addr} {od9 an9 : Option Addr} {sl9 : Array (Option Value)} {oc9 kV9 dc9 pm9 cd9 ct9 : Value}
    {f10 : Addr} {od10 an10 : Option Addr} {sl10 : Array (Option Value)} {oc10 kV10 dc10 pm10 cd10 ct10 : Value}
    {f11 : Addr} {od11 an11 : Option Addr} {sl11 : Array (Option Value)} {oc11 kV11 dc11 pm11 cd11 ct11 : Value}
    {f12 : Addr} {od12 an12 : Option Addr} {sl12 : Array (Option Value)} {oc12 kV12 dc12 pm12 cd12 ct12 : Value}
    {f13 : Addr} {od13 an13 : Option Addr} {sl13 : Array (Option Value)} {oc13 kV13 dc13 pm13 cd13 ct13 : Value}
    {f14 : Addr} {od14 an14 : Option Addr} {sl14 : Array (Option Value)} {oc14 kV14 dc14 pm14 cd14 ct14 : Value}
    {f15 : Addr} {od15 an15 : Option Addr} {sl15 : Array (Option Value)} {oc15 kV15 dc15 pm15 cd15 ct15 : Value}
    {f16 : Addr} {od16 an16 : Option Addr} {sl16 : Array (Option Value)} {oc16 kV16 dc16 pm16 cd16 ct16 : Value}
    {f17 : Addr} {od17 an17 : Option Addr} {sl17 : Array (Option Value)} {oc17 kV17 dc17 pm17 cd17 ct17 : Value}
    {f18 : Addr} {od18 an18 : Option Addr} {sl18 : Array (Option Value)} {oc18 kV18 dc18 pm18 cd18 ct18 : Value}
    {f19 : Addr} {od19 an19 : Option Addr} {sl19 : Array (Option Value)} {oc19 kV19 dc19 pm19 cd19 ct19 : Value}
    {f20 : Addr} {od20 an20 : Option Addr} {sl20 : Array (Option Value)} {oc20 kV20 dc20 pm20 cd20 ct20 : Value}
    {f21 : Addr} {od21 an21 : Option Addr} {sl21 : Array (Option Value)} {oc21 kV21 dc21 pm21 cd21 ct21 : Value}
    {f22 : Addr} {od22 an22 : Option Addr} {sl22 : Array (Option Value)} {oc22 kV22 dc22 pm22 cd22 ct22 : Value}
    {f23 : Addr} {od23 an23 : Option Addr} {sl23 : Array (Option Value)} {oc23 kV23 dc23 pm23 cd23 ct23 : Value}
    {f24 : Addr} {od24 an24 : Option Addr} {sl24 : Array (Option Value)} {oc24 kV24 dc24 pm24 cd24 ct24 : Value}
    {f25 : Addr} {od25 an25 : Option Addr} {sl25 : Array (Option Value)} {oc25 kV25 dc25 pm25 cd25 ct25 : Value}
    {f26 : Addr} {od26 an26 : Option Addr} {sl26 : Array (Option Value)} {oc26 kV26 dc26 pm26 cd26 ct26 : Value}
    {f27 : Addr} {od27 an27 : Option Addr} {sl27 : Array (Option Value)} {oc27 kV27 dc27 pm27 cd27 ct27 : Value}
    {f28 : Addr} {od28 an28 : Option Addr} {sl28 : Array (Option Value)} {oc28 kV28 dc28 pm28 cd28 ct28 : Value}
    {f29 : Addr} {od29 an29 : Option Addr} {sl29 : Array (Option Value)} {oc29 kV29 dc29 pm29 cd29 ct29 : Value}
    {f30 : Addr} {od30 an30 : Option Addr} {sl30 : Array (Option Value)} {oc30 kV30 dc30 pm30 cd30 ct30 : Value}
    {f31 : Addr} {od31 an31 : Option Addr} {sl31 : Array (Option Value)} {oc31 kV31 dc31 pm31 cd31 ct31 : Value}
    {f32 : Addr} {od32 an32 : Option Addr} {sl32 : Array (Option Value)} {oc32 kV32 dc32 pm32 cd32 ct32 : Value}
    {f33 : Addr} {od33 an33 : Option Addr} {sl33 : Array (Option Value)} {oc33 kV33 dc33 pm33 cd33 ct33 : Value}
    {f34 : Addr} {od34 an34 : Option Addr} {sl34 : Array (Option Value)} {oc34 kV34 dc34 pm34 cd34 ct34 : Value}
    {f35 : Addr} {od35 an35 : Option Addr} {sl35 : Array (Option Value)} {oc35 kV35 dc35 pm35 cd35 ct35 : Value}
    {f36 : Addr} {od36 an36 : Option Addr} {sl36 : Array (Option Value)} {oc36 kV36 dc36 pm36 cd36 ct36 : Value}
    {f37 : Addr} {od37 an37 : Option Addr} {sl37 : Array (Option Value)} {oc37 kV37 dc37 pm37 cd37 ct37 : Value}
    {f38 : Addr} {od38 an38 : Option Addr} {sl38 : Array (Option Value)} {oc38 kV38 dc38 pm38 cd38 ct38 : Value}
    {f39 : Addr} {od39 an39 : Option Addr} {sl39 : Array (Option Value)} {oc39 kV39 dc39 pm39 cd39 ct39 : Value}
    {f40 : Addr} {od40 an40 : Option Addr} {sl40 : Array (Option Value)} {oc40 kV40 dc40 pm40 cd40 ct40 : Value}
    {f41 : Addr} {od41 an41 : Option Addr} {sl41 : Array (Option Value)} {oc41 kV41 dc41 pm41 cd41 ct41 : Value}
    {f42 : Addr} {od42 an42 : Option Addr} {sl42 : Array (Option Value)} {oc42 kV42 dc42 pm42 cd42 ct42 : Value}
    {f43 : Addr} {od43 an43 : Option Addr} {sl43 : Array (Option Value)} {oc43 kV43 dc43 pm43 cd43 ct43 : Value}
    {f44 : Addr} {od44 an44 : Option Addr} {sl44 : Array (Option Value)} {oc44 kV44 dc44 pm44 cd44 ct44 : Value}
    {f45 : Addr} {od45 an45 : Option Addr} {sl45 : Array (Option Value)} {oc45 kV45 dc45 pm45 cd45 ct45 : Value}
    {f46 : Addr} {od46 an46 : Option Addr} {sl46 : Array (Option Value)} {oc46 kV46 dc46 pm46 cd46 ct46 : Value}
    {f47 : Addr} {od47 an47 : Option Addr} {sl47 : Array (Option Value)} {oc47 kV47 dc47 pm47 cd47 ct47 : Value}
    {f48 : Addr} {od48 an48 : Option Addr} {sl48 : Array (Option Value)} {oc48 kV48 dc48 pm48 cd48 ct48 : Value}
    {f49 : Addr} {od49 an49 : Option Addr} {sl49 : Array (Option Value)} {oc49 kV49 dc49 pm49 cd49 ct49 : Value}
    {tk0 : Tok} {tk1 : Tok} {tk2 : Tok} {tk3 : Tok} {tk4 : Tok} {tk5 : Tok} {tk6 : Tok} {tk7 : Tok} {tk8 : Tok}
    (a0 : PySem.W.nsIn K mainGlobals "is_whole" = some (some (.ref f0))) (l0 : K.lookup f0 = some ⟨oc0, od0, .func (PySem.W.fnOf "is_whole" "is_whole" (defArgs s_is_whole) (defBody s_is_whole) (defScope s_is_whole) .none kV0 dc0 pm0 an0 cd0 ct0), sl0⟩) (c0 : PySem.W.codeIn K cd0 "is_whole" = true) (k0 : PySem.W.keepIn K (.ref f0) = true)
    (a1 : PySem.W.nsIn K mainGlobals "is_letter" = some (some (.ref f1))) (l1 : K.lookup f1 = some ⟨oc1, od1, .func (PySem.W.fnOf "is_letter" "is_letter" (defArgs s_is_letter) (defBody s_is_letter) (defScope s_is_letter) .none kV1 dc1 pm1 an1 cd1 ct1), sl1⟩) (c1 : PySem.W.codeIn K cd1 "is_letter" = true) (k1 : PySem.W.keepIn K (.ref f1) = true)
    (a2 : PySem.W.nsIn K mainGlobals "letters" = some (some (.ref f2))) (l2 : K.lookup f2 = some ⟨oc2, od2, .func (PySem.W.fnOf "letters" "letters" (defArgs s_letters) (defBody s_letters) (defScope s_letters) .none kV2 dc2 pm2 an2 cd2 ct2), sl2⟩) (c2 : PySem.W.codeIn K cd2 "letters" = true) (k2 : PySem.W.keepIn K (.ref f2) = true)
    (a3 : PySem.W.nsIn K mainGlobals "words_of" = some (some (.ref f3))) (l3 : K.lookup f3 = some ⟨oc3, od3, .func (PySem.W.fnOf "words_of" "words_of" (defArgs s_words_of) (defBody s_words_of) (defScope s_words_of) .none kV3 dc3 pm3 an3 cd3 ct3), sl3⟩) (c3 : PySem.W.codeIn K cd3 "words_of" = true) (k3 : PySem.W.keepIn K (.ref f3) = true)
    (a4 : PySem.W.nsIn K mainGlobals "need_letter" = some (some (.ref f4))) (l4 : K.lookup f4 = some ⟨oc4, od4, .func (PySem.W.fnOf "need_letter" "need_letter" (defArgs s_need_letter) (defBody s_need_letter) (defScope s_need_letter) .none kV4 dc4 pm4 an4 cd4 ct4), sl4⟩) (c4 : PySem.W.codeIn K cd4 "need_letter" = true) (k4 : PySem.W.keepIn K (.ref f4) = true)
    (a5 : PySem.W.nsIn K mainGlobals "need_age" = some (some (.ref f5))) (l5 : K.lookup f5 = some ⟨oc5, od5, .func (PySem.W.fnOf "need_age" "need_age" (defArgs s_need_age) (defBody s_need_age) (defScope s_need_age) .none kV5 dc5 pm5 an5 cd5 ct5), sl5⟩) (c5 : PySem.W.codeIn K cd5 "need_age" = true) (k5 : PySem.W.keepIn K (.ref f5) = true)
    (a6 : PySem.W.nsIn K mainGlobals "turned_by" = some (some (.ref f6))) (l6 : K.lookup f6 = some ⟨oc6, od6, .func (PySem.W.fnOf "turned_by" "turned_by" (defArgs s_turned_by) (defBody s_turned_by) (defScope s_turned_by) .none kV6 dc6 pm6 an6 cd6 ct6), sl6⟩) (c6 : PySem.W.codeIn K cd6 "turned_by" = true) (k6 : PySem.W.keepIn K (.ref f6) = true)
    (a7 : PySem.W.nsIn K mainGlobals "rows" = some (some (.ref f7))) (l7 : K.lookup f7 = some ⟨oc7, od7, .func (PySem.W.fnOf "rows" "rows" (defArgs s_rows) (defBody s_rows) (defScope s_rows) .none kV7 dc7 pm7 an7 cd7 ct7), sl7⟩) (c7 : PySem.W.codeIn K cd7 "rows" = true) (k7 : PySem.W.keepIn K (.ref f7) = true)
    (a8 : PySem.W.nsIn K mainGlobals "row" = some (some (.ref f8))) (l8 : K.lookup f8 = some ⟨oc8, od8, .func (PySem.W.fnOf "row" "row" (defArgs s_row) (defBody s_row) (defScope s_row) .none kV8 dc8 pm8 an8 cd8 ct8), sl8⟩) (c8 : PySem.W.codeIn K cd8 "row" = true) (k8 : PySem.W.keepIn K (.ref f8) = true)
    (a9 : PySem.W.nsIn K mainGlobals "early_part" = some (some (.ref f9))) (l9 : K.lookup f9 = some ⟨oc9, od9, .func (PySem.W.fnOf "early_part" "early_part" (defArgs s_early_part) (defBody s_early_part) (defScope s_early_part) .none kV9 dc9 pm9 an9 cd9 ct9), sl9⟩) (c9 : PySem.W.codeIn K cd9 "early_part" = true) (k9 : PySem.W.keepIn K (.ref f9) = true)
    (a10 : PySem.W.nsIn K mainGlobals "even_places" = some (some (.ref f10))) (l10 : K.lookup f10 = some ⟨oc10, od10, .func (PySem.W.fnOf "even_places" "even_places" (defArgs s_even_places) (defBody s_even_places) (defScope s_even_places) .none kV10 dc10 pm10 an10 cd10 ct10), sl10⟩) (c10 : PySem.W.codeIn K cd10 "even_places" = true) (k10 : PySem.W.keepIn K (.ref f10) = true)
    (a11 : PySem.W.nsIn K mainGlobals "onward_places" = some (some (.ref f11))) (l11 : K.lookup f11 = some ⟨oc11, od11, .func (PySem.W.fnOf "onward_places" "onward_places" (defArgs s_onward_places) (defBody s_onward_places) (defScope s_onward_places) .none kV11 dc11 pm11 an11 cd11 ct11), sl11⟩) (c11 : PySem.W.codeIn K cd11 "onward_places" = true) (k11 : PySem.W.keepIn K (.ref f11) = true)
    (a12 : PySem.W.nsIn K mainGlobals "cut" = some (some (.ref f12))) (l12 : K.lookup f12 = some ⟨oc12, od12, .func (PySem.W.fnOf "cut" "cut" (defArgs s_cut) (defBody s_cut) (defScope s_cut) .none kV12 dc12 pm12 an12 cd12 ct12), sl12⟩) (c12 : PySem.W.codeIn K cd12 "cut" = true) (k12 : PySem.W.keepIn K (.ref f12) = true)
    (a13 : PySem.W.nsIn K mainGlobals "added" = some (some (.ref f13))) (l13 : K.lookup f13 = some ⟨oc13, od13, .func (PySem.W.fnOf "added" "added" (defArgs s_added) (defBody s_added) (defScope s_added) .none kV13 dc13 pm13 an13 cd13 ct13), sl13⟩) (c13 : PySem.W.codeIn K cd13 "added" = true) (k13 : PySem.W.keepIn K (.ref f13) = true)
    (a14 : PySem.W.nsIn K mainGlobals "gone_through" = some (some (.ref f14))) (l14 : K.lookup f14 = some ⟨oc14, od14, .func (PySem.W.fnOf "gone_through" "gone_through" (defArgs s_gone_through) (defBody s_gone_through) (defScope s_gone_through) .none kV14 dc14 pm14 an14 cd14 ct14), sl14⟩) (c14 : PySem.W.codeIn K cd14 "gone_through" = true) (k14 : PySem.W.keepIn K (.ref f14) = true)
    (a15 : PySem.W.nsIn K mainGlobals "rows_alike" = some (some (.ref f15))) (l15 : K.lookup f15 = some ⟨oc15, od15, .func (PySem.W.fnOf "rows_alike" "rows_alike" (defArgs s_rows_alike) (defBody s_rows_alike) (defScope s_rows_alike) .none kV15 dc15 pm15 an15 cd15 ct15), sl15⟩) (c15 : PySem.W.codeIn K cd15 "rows_alike" = true) (k15 : PySem.W.keepIn K (.ref f15) = true)
    (a16 : PySem.W.nsIn K mainGlobals "worths_of" = some (some (.ref f16))) (l16 : K.lookup f16 = some ⟨oc16, od16, .func (PySem.W.fnOf "worths_of" "worths_of" (defArgs s_worths_of) (defBody s_worths_of) (defScope s_worths_of) .none kV16 dc16 pm16 an16 cd16 ct16), sl16⟩) (c16 : PySem.W.codeIn K cd16 "worths_of" = true) (k16 : PySem.W.keepIn K (.ref f16) = true)
    (a17 : PySem.W.nsIn K mainGlobals "sizes_of" = some (some (.ref f17))) (l17 : K.lookup f17 = some ⟨oc17, od17, .func (PySem.W.fnOf "sizes_of" "sizes_of" (defArgs s_sizes_of) (defBody s_sizes_of) (defScope s_sizes_of) .none kV17 dc17 pm17 an17 cd17 ct17), sl17⟩) (c17 : PySem.W.codeIn K cd17 "sizes_of" = true) (k17 : PySem.W.keepIn K (.ref f17) = true)
    (a18 : PySem.W.nsIn K mainGlobals "total_of" = some (some (.ref f18))) (l18 : K.lookup f18 = some ⟨oc18, od18, .func (PySem.W.fnOf "total_of" "total_of" (defArgs s_total_of) (defBody s_total_of) (defScope s_total_of) .none kV18 dc18 pm18 an18 cd18 ct18), sl18⟩) (c18 : PySem.W.codeIn K cd18 "total_of" = true) (k18 : PySem.W.keepIn K (.ref f18) = true)
    (a19 : PySem.W.nsIn K mainGlobals "way_down" = some (some (.ref f19))) (l19 : K.lookup f19 = some ⟨oc19, od19, .func (PySem.W.fnOf "way_down" "way_down" (defArgs s_way_down) (defBody s_way_down) (defScope s_way_down) .none kV19 dc19 pm19 an19 cd19 ct19), sl19⟩) (c19 : PySem.W.codeIn K cd19 "way_down" = true) (k19 : PySem.W.keepIn K (.ref f19) = true)
    (a20 : PySem.W.nsIn K mainGlobals "worth_ahead" = some (some (.ref f20))) (l20 : K.lookup f20 = some ⟨oc20, od20, .func (PySem.W.fnOf "worth_ahead" "worth_ahead" (defArgs s_worth_ahead) (defBody s_worth_ahead) (defScope s_worth_ahead) .none kV20 dc20 pm20 an20 cd20 ct20), sl20⟩) (c20 : PySem.W.codeIn K cd20 "worth_ahead" = true) (k20 : PySem.W.keepIn K (.ref f20) = true)
    (a21 : PySem.W.nsIn K mainGlobals "cut_out" = some (some (.ref f21))) (l21 : K.lookup f21 = some ⟨oc21, od21, .func (PySem.W.fnOf "cut_out" "cut_out" (defArgs s_cut_out) (defBody s_cut_out) (defScope s_cut_out) .none kV21 dc21 pm21 an21 cd21 ct21), sl21⟩) (c21 : PySem.W.codeIn K cd21 "cut_out" = true) (k21 : PySem.W.keepIn K (.ref f21) = true)
    (a22 : PySem.W.nsIn K mainGlobals "words_at" = some (some (.ref f22))) (l22 : K.lookup f22 = some ⟨oc22, od22, .func (PySem.W.fnOf "words_at" "words_at" (defArgs s_words_at) (defBody s_words_at) (defScope s_words_at) .none kV22 dc22 pm22 an22 cd22 ct22), sl22⟩) (c22 : PySem.W.codeIn K cd22 "words_at" = true) (k22 : PySem.W.keepIn K (.ref f22) = true)
    (a23 : PySem.W.nsIn K mainGlobals "need_place" = some (some (.ref f23))) (l23 : K.lookup f23 = some ⟨oc23, od23, .func (PySem.W.fnOf "need_place" "need_place" (defArgs s_need_place) (defBody s_need_place) (defScope s_need_place) .none kV23 dc23 pm23 an23 cd23 ct23), sl23⟩) (c23 : PySem.W.codeIn K cd23 "need_place" = true) (k23 : PySem.W.keepIn K (.ref f23) = true)
    (a24 : PySem.W.nsIn K mainGlobals "need_cut" = some (some (.ref f24))) (l24 : K.lookup f24 = some ⟨oc24, od24, .func (PySem.W.fnOf "need_cut" "need_cut" (defArgs s_need_cut) (defBody s_need_cut) (defScope s_need_cut) .none kV24 dc24 pm24 an24 cd24 ct24), sl24⟩) (c24 : PySem.W.codeIn K cd24 "need_cut" = true) (k24 : PySem.W.keepIn K (.ref f24) = true)
    (a25 : PySem.W.nsIn K mainGlobals "way" = some (some (.ref f25))) (l25 : K.lookup f25 = some ⟨oc25, od25, .func (PySem.W.fnOf "way" "way" (defArgs s_way) (defBody s_way) (defScope s_way) .none kV25 dc25 pm25 an25 cd25 ct25), sl25⟩) (c25 : PySem.W.codeIn K cd25 "way" = true) (k25 : PySem.W.keepIn K (.ref f25) = true)
    (a26 : PySem.W.nsIn K mainGlobals "letter_at" = some (some (.ref f26))) (l26 : K.lookup f26 = some ⟨oc26, od26, .func (PySem.W.fnOf "letter_at" "letter_at" (defArgs s_letter_at) (defBody s_letter_at) (defScope s_letter_at) .none kV26 dc26 pm26 an26 cd26 ct26), sl26⟩) (c26 : PySem.W.codeIn K cd26 "letter_at" = true) (k26 : PySem.W.keepIn K (.ref f26) = true)
    (a27 : PySem.W.nsIn K mainGlobals "stretch" = some (some (.ref f27))) (l27 : K.lookup f27 = some ⟨oc27, od27, .func (PySem.W.fnOf "stretch" "stretch" (defArgs s_stretch) (defBody s_stretch) (defScope s_stretch) .none kV27 dc27 pm27 an27 cd27 ct27), sl27⟩) (c27 : PySem.W.codeIn K cd27 "stretch" = true) (k27 : PySem.W.keepIn K (.ref f27) = true)
    (a28 : PySem.W.nsIn K mainGlobals "worths_by" = some (some (.ref f28))) (l28 : K.lookup f28 = some ⟨oc28, od28, .func (PySem.W.fnOf "worths_by" "worths_by" (defArgs s_worths_by) (defBody s_worths_by) (defScope s_worths_by) .none kV28 dc28 pm28 an28 cd28 ct28), sl28⟩) (c28 : PySem.W.codeIn K cd28 "worths_by" = true) (k28 : PySem.W.keepIn K (.ref f28) = true)
    (a29 : PySem.W.nsIn K mainGlobals "ahead" = some (some (.ref f29))) (l29 : K.lookup f29 = some ⟨oc29, od29, .func (PySem.W.fnOf "ahead" "ahead" (defArgs s_ahead) (defBody s_ahead) (defScope s_ahead) .none kV29 dc29 pm29 an29 cd29 ct29), sl29⟩) (c29 : PySem.W.codeIn K cd29 "ahead" = true) (k29 : PySem.W.keepIn K (.ref f29) = true)
    (a30 : PySem.W.nsIn K mainGlobals "tally" = some (some (.ref f30))) (l30 : K.lookup f30 = some ⟨oc30, od30, .func (PySem.W.fnOf "tally" "tally" (defArgs s_tally) (defBody s_tally) (defScope s_tally) .none kV30 dc30 pm30 an30 cd30 ct30), sl30⟩) (c30 : PySem.W.codeIn K cd30 "tally" = true) (k30 : PySem.W.keepIn K (.ref f30) = true)
    (a31 : PySem.W.nsIn K mainGlobals "table" = some (some (.ref f31))) (l31 : K.lookup f31 = some ⟨oc31, od31, .func (PySem.W.fnOf "table" "table" (defArgs s_table) (defBody s_table) (defScope s_table) .none kV31 dc31 pm31 an31 cd31 ct31), sl31⟩) (c31 : PySem.W.codeIn K cd31 "table" = true) (k31 : PySem.W.keepIn K (.ref f31) = true)
    (a32 : PySem.W.nsIn K mainGlobals "passed" = some (some (.ref f32))) (l32 : K.lookup f32 = some ⟨oc32, od32, .func (PySem.W.fnOf "passed" "passed" (defArgs s_passed) (defBody s_passed) (defScope s_passed) .none kV32 dc32 pm32 an32 cd32 ct32), sl32⟩) (c32 : PySem.W.codeIn K cd32 "passed" = true) (k32 : PySem.W.keepIn K (.ref f32) = true)
    (a33 : PySem.W.nsIn K mainGlobals "counts_from" = some (some (.ref f33))) (l33 : K.lookup f33 = some ⟨oc33, od33, .func (PySem.W.fnOf "counts_from" "counts_from" (defArgs s_counts_from) (defBody s_counts_from) (defScope s_counts_from) .none kV33 dc33 pm33 an33 cd33 ct33), sl33⟩) (c33 : PySem.W.codeIn K cd33 "counts_from" = true) (k33 : PySem.W.keepIn K (.ref f33) = true)
    (a34 : PySem.W.nsIn K mainGlobals "counts" = some (some (.ref f34))) (l34 : K.lookup f34 = some ⟨oc34, od34, .func (PySem.W.fnOf "counts" "counts" (defArgs s_counts) (defBody s_counts) (defScope s_counts) .none kV34 dc34 pm34 an34 cd34 ct34), sl34⟩) (c34 : PySem.W.codeIn K cd34 "counts" = true) (k34 : PySem.W.keepIn K (.ref f34) = true)
    (a35 : PySem.W.nsIn K mainGlobals "length" = some (some (.ref f35))) (l35 : K.lookup f35 = some ⟨oc35, od35, .func (PySem.W.fnOf "length" "length" (defArgs s_length) (defBody s_length) (defScope s_length) .none kV35 dc35 pm35 an35 cd35 ct35), sl35⟩) (c35 : PySem.W.codeIn K cd35 "length" = true) (k35 : PySem.W.keepIn K (.ref f35) = true)
    (a36 : PySem.W.nsIn K mainGlobals "_law_whole" = some (some (.ref f36))) (l36 : K.lookup f36 = some ⟨oc36, od36, .func (PySem.W.fnOf "_law_whole" "_law_whole" (defArgs s_law_whole) (defBody s_law_whole) (defScope s_law_whole) .none kV36 dc36 pm36 an36 cd36 ct36), sl36⟩) (c36 : PySem.W.codeIn K cd36 "_law_whole" = true) (k36 : PySem.W.keepIn K (.ref f36) = true)
    (a37 : PySem.W.nsIn K mainGlobals "_law_pen" = some (some (.ref f37))) (l37 : K.lookup f37 = some ⟨oc37, od37, .func (PySem.W.fnOf "_law_pen" "_law_pen" (defArgs s_law_pen) (defBody s_law_pen) (defScope s_law_pen) .none kV37 dc37 pm37 an37 cd37 ct37), sl37⟩) (c37 : PySem.W.codeIn K cd37 "_law_pen" = true) (k37 : PySem.W.keepIn K (.ref f37) = true)
    (a38 : PySem.W.nsIn K mainGlobals "_law_take" = some (some (.ref f38))) (l38 : K.lookup f38 = some ⟨oc38, od38, .func (PySem.W.fnOf "_law_take" "_law_take" (defArgs s_law_take) (defBody s_law_take) (defScope s_law_take) .none kV38 dc38 pm38 an38 cd38 ct38), sl38⟩) (c38 : PySem.W.codeIn K cd38 "_law_take" = true) (k38 : PySem.W.keepIn K (.ref f38) = true)
    (a39 : PySem.W.nsIn K mainGlobals "_law_signs" = some (some (.ref f39))) (l39 : K.lookup f39 = some ⟨oc39, od39, .func (PySem.W.fnOf "_law_signs" "_law_signs" (defArgs s_law_signs) (defBody s_law_signs) (defScope s_law_signs) .none kV39 dc39 pm39 an39 cd39 ct39), sl39⟩) (c39 : PySem.W.codeIn K cd39 "_law_signs" = true) (k39 : PySem.W.keepIn K (.ref f39) = true)
    (a40 : PySem.W.nsIn K mainGlobals "_law_text" = some (some (.ref f40))) (l40 : K.lookup f40 = some ⟨oc40, od40, .func (PySem.W.fnOf "_law_text" "_law_text" (defArgs s_law_text) (defBody s_law_text) (defScope s_law_text) .none kV40 dc40 pm40 an40 cd40 ct40), sl40⟩) (c40 : PySem.W.codeIn K cd40 "_law_text" = true) (k40 : PySem.W.keepIn K (.ref f40) = true)
    (a41 : PySem.W.nsIn K mainGlobals "_law_cutting" = some (some (.ref f41))) (l41 : K.lookup f41 = some ⟨oc41, od41, .func (PySem.W.fnOf "_law_cutting" "_law_cutting" (defArgs s_law_cutting) (defBody s_law_cutting) (defScope s_law_cutting) .none kV41 dc41 pm41 an41 cd41 ct41), sl41⟩) (c41 : PySem.W.codeIn K cd41 "_law_cutting" = true) (k41 : PySem.W.keepIn K (.ref f41) = true)
    (a42 : PySem.W.nsIn K mainGlobals "_law_pair" = some (some (.ref f42))) (l42 : K.lookup f42 = some ⟨oc42, od42, .func (PySem.W.fnOf "_law_pair" "_law_pair" (defArgs s_law_pair) (defBody s_law_pair) (defScope s_law_pair) .none kV42 dc42 pm42 an42 cd42 ct42), sl42⟩) (c42 : PySem.W.codeIn K cd42 "_law_pair" = true) (k42 : PySem.W.keepIn K (.ref f42) = true)
    (a43 : PySem.W.nsIn K mainGlobals "_law_balanced" = some (some (.ref f43))) (l43 : K.lookup f43 = some ⟨oc43, od43, .func (PySem.W.fnOf "_law_balanced" "_law_balanced" (defArgs s_law_balanced) (defBody s_law_balanced) (defScope s_law_balanced) .none kV43 dc43 pm43 an43 cd43 ct43), sl43⟩) (c43 : PySem.W.codeIn K cd43 "_law_balanced" = true) (k43 : PySem.W.keepIn K (.ref f43) = true)
    (a44 : PySem.W.nsIn K mainGlobals "_law_long_pair" = some (some (.ref f44))) (l44 : K.lookup f44 = some ⟨oc44, od44, .func (PySem.W.fnOf "_law_long_pair" "_law_long_pair" (defArgs s_law_long_pair) (defBody s_law_long_pair) (defScope s_law_long_pair) .none kV44 dc44 pm44 an44 cd44 ct44), sl44⟩) (c44 : PySem.W.codeIn K cd44 "_law_long_pair" = true) (k44 : PySem.W.keepIn K (.ref f44) = true)
    (a45 : PySem.W.nsIn K mainGlobals "_law_spoil" = some (some (.ref f45))) (l45 : K.lookup f45 = some ⟨oc45, od45, .func (PySem.W.fnOf "_law_spoil" "_law_spoil" (defArgs s_law_spoil) (defBody s_law_spoil) (defScope s_law_spoil) .none kV45 dc45 pm45 an45 cd45 ct45), sl45⟩) (c45 : PySem.W.codeIn K cd45 "_law_spoil" = true) (k45 : PySem.W.keepIn K (.ref f45) = true)
    (a46 : PySem.W.nsIn K mainGlobals "_law_by_letters" = some (some (.ref f46))) (l46 : K.lookup f46 = some ⟨oc46, od46, .func (PySem.W.fnOf "_law_by_letters" "_law_by_letters" (defArgs s_law_by_letters) (defBody s_law_by_letters) (defScope s_law_by_letters) .none kV46 dc46 pm46 an46 cd46 ct46), sl46⟩) (c46 : PySem.W.codeIn K cd46 "_law_by_letters" = true) (k46 : PySem.W.keepIn K (.ref f46) = true)
    (a47 : PySem.W.nsIn K mainGlobals "_law_same" = some (some (.ref f47))) (l47 : K.lookup f47 = some ⟨oc47, od47, .func (PySem.W.fnOf "_law_same" "_law_same" (defArgs s_law_same) (defBody s_law_same) (defScope s_law_same) .none kV47 dc47 pm47 an47 cd47 ct47), sl47⟩) (c47 : PySem.W.codeIn K cd47 "_law_same" = true) (k47 : PySem.W.keepIn K (.ref f47) = true)
    (a48 : PySem.W.nsIn K mainGlobals "_law_parted" = some (some (.ref f48))) (l48 : K.lookup f48 = some ⟨oc48, od48, .func (PySem.W.fnOf "_law_parted" "_law_parted" (defArgs s_law_parted) (defBody s_law_parted) (defScope s_law_parted) .none kV48 dc48 pm48 an48 cd48 ct48), sl48⟩) (c48 : PySem.W.codeIn K cd48 "_law_parted" = true) (k48 : PySem.W.keepIn K (.ref f48) = true)
    (a49 : PySem.W.nsIn K mainGlobals "law" = some (some (.ref f49))) (l49 : K.lookup f49 = some ⟨oc49, od49, .func (PySem.W.fnOf "law" "law" (defArgs s_law) (defBody s_law) (defScope s_law) .none kV49 dc49 pm49 an49 cd49 ct49), sl49⟩) (c49 : PySem.W.codeIn K cd49 "law" = true) (k49 : PySem.W.keepIn K (.ref f49) = true)
    (aC : PySem.W.nsIn K mainGlobals "TooMany" = some (some (.ref C))) (xC : PySem.W.excIn K C [.type "ValueError", .type "Exception", .type "BaseException", .type "object"] "ValueError.__new__" = true) (kC : PySem.W.keepIn K (.ref C) = true) (bC : PySem.W.subIn K (.ref C) (.type "BaseException") = some true) (tC : PySem.W.typeIn K (.ref C) = some (.type "type")) (iC : PySem.W.isClsIn K C = true) (sC : PySem.W.subIn K (.ref C) (.ref C) = some true)
    (z_len : PySem.W.nsIn K mainGlobals "len" = some none)
    (z_list : PySem.W.nsIn K mainGlobals "list" = some none)
    (z_tuple : PySem.W.nsIn K mainGlobals "tuple" = some none)
    (z_sum : PySem.W.nsIn K mainGlobals "sum" = some none)
    (z_min : PySem.W.nsIn K mainGlobals "min" = some none)
    (z_int : PySem.W.nsIn K mainGlobals "int" = some none)
    (z_dict : PySem.W.nsIn K mainGlobals "dict" = some none)
    (z_sorted : PySem.W.nsIn K mainGlobals "sorted" = some none)
    (z_isinstance : PySem.W.nsIn K mainGlobals "isinstance" = some none)
    (z_range : PySem.W.nsIn K mainGlobals "range" = some none)
    (z_enumerate : PySem.W.nsIn K mainGlobals "enumerate" = some none)
    (z_reversed : PySem.W.nsIn K mainGlobals "reversed" = some none)
    (z_str : PySem.W.nsIn K mainGlobals "str" = some none)
    (z_bool : PySem.W.nsIn K mainGlobals "bool" = some none)
    (cst0 : PySem.W.nsIn K mainGlobals "SIGNS" = some (some (.str "abcdefghijklmnopqrstuvwxyz" tk0)))
    (cst1 : PySem.W.nsIn K mainGlobals "LAST_AGE" = some (some (.int 300 tk1)))
    (cst2 : PySem.W.nsIn K mainGlobals "MOST_ROW" = some (some (.int 600 tk2)))
    (cst3 : PySem.W.nsIn K mainGlobals "MOST_PIECES" = some (some (.int 30 tk3)))
    (cst4 : PySem.W.nsIn K mainGlobals "LONGEST_PIECE" = some (some (.int 40 tk4)))
    (cst5 : PySem.W.nsIn K mainGlobals "MOST_BARRED" = some (some (.int 30 tk5)))
    (cst6 : PySem.W.nsIn K mainGlobals "EARLY_AGE" = some (some (.int 20 tk6)))
    (cst7 : PySem.W.nsIn K mainGlobals "EARLY_ROW" = some (some (.int 300 tk7)))
    (cst8 : PySem.W.nsIn K mainGlobals "MOST_CUT" = some (some (.int 100 tk8)))
    : ∃ fd : FuncData, (∀ (s : Shared) (u : Value), BindsTo s fd ⟨[u], []⟩ [("_law_script", u)]) ∧ ∀ base : Heap, K.In base → base.Ns mainGlobals mg → FnOk P w K mg base CX0 6 fa fd ["_law_script"] (spLaw K) := by
  have e := hfa.symm.trans (PySem.W.mg_of X G a49)
  cases e
  have F0 := fun_mk (st := s_is_whole) l0 c0 k0
  have D0 : DefAt K mg "is_whole" s_is_whole ["thing"] := ⟨_, _, F0, PySem.W.mg_of X G a0, F0.binds (ps := ["thing"]) fun _ _ _ _ _ _ us hl => match us, hl with | [_], _ => rfl⟩
  have F1 := fun_mk (st := s_is_letter) l1 c1 k1
  have D1 : DefAt K mg "is_letter" s_is_letter ["thing"] := ⟨_, _, F1, PySem.W.mg_of X G a1, F1.binds (ps := ["thing"]) fun _ _ _ _ _ _ us hl => match us, hl with | [_], _ => rfl⟩
  have F2 := fun_mk (st := s_letters) l2 c2 k2
  have D2 : DefAt K mg "letters" s_letters ["book"] := ⟨_, _, F2, PySem.W.mg_of X G a2, F2.binds (ps := ["book"]) fun _ _ _ _ _ _ us hl => match us, hl with | [_], _ => rfl⟩
  have F3 := fun_mk (st := s_words_of) l3 c3 k3
  have D3 : DefAt K mg "words_of" s_words_of ["book"] := ⟨_, _, F3, PySem.W.mg_of X G a3, F3.binds (ps := ["book"]) fun _ _ _ _ _ _ us hl => match us, hl with | [_], _ => rfl⟩
  have F4 := fun_mk (st := s_need_letter) l4 c4 k4
  have D4 : DefAt K mg "need_letter" s_need_letter ["book", "letter"] := ⟨_, _, F4, PySem.W.mg_of X G a4, F4.binds (ps := ["book", "letter"]) fun _ _ _ _ _ _ us hl => match us, hl with | [_, _], _ => rfl⟩
  have F5 := fun_mk (st := s_need_age) l5 c5 k5
  have D5 : DefAt K mg "need_age" s_need_age ["age"] := ⟨_, _, F5, PySem.W.mg_of X G a5, F5.binds (ps := ["age"]) fun _ _ _ _ _ _ us hl => match us, hl with | [_], _ => rfl⟩
  have F6 := fun_mk (st := s_turned_by) l6 c6 k6
  have D6 : DefAt K mg "turned_by" s_turned_by ["words", "text"] := ⟨_, _, F6, PySem.W.mg_of X G a6, F6.binds (ps := ["words", "text"]) fun _ _ _ _ _ _ us hl => match us, hl with | [_, _], _ => rfl⟩
  have F7 := fun_mk (st := s_rows) l7 c7 k7
  have D7 : DefAt K mg "rows" s_rows ["book", "age"] := ⟨_, _, F7, PySem.W.mg_of X G a7, F7.binds (ps := ["book", "age"]) fun _ _ _ _ _ _ us hl => match us, hl with | [_, _], _ => rfl⟩
  have F8 := fun_mk (st := s_row) l8 c8 k8
  have D8 : DefAt K mg "row" s_row ["book", "age"] := ⟨_, _, F8, PySem.W.mg_of X G a8, F8.binds (ps := ["book", "age"]) fun _ _ _ _ _ _ us hl => match us, hl with | [_, _], _ => rfl⟩
  have F9 := fun_mk (st := s_early_part) l9 c9 k9
  have D9 : DefAt K mg "early_part" s_early_part ["one", "other"] := ⟨_, _, F9, PySem.W.mg_of X G a9, F9.binds (ps := ["one", "other"]) fun _ _ _ _ _ _ us hl => match us, hl with | [_, _], _ => rfl⟩
  have F10 := fun_mk (st := s_even_places) l10 c10 k10
  have D10 : DefAt K mg "even_places" s_even_places ["words", "others", "text"] := ⟨_, _, F10, PySem.W.mg_of X G a10, F10.binds (ps := ["words", "others", "text"]) fun _ _ _ _ _ _ us hl => match us, hl with | [_, _, _], _ => rfl⟩
  have F11 := fun_mk (st := s_onward_places) l11 c11 k11
  have D11 : DefAt K mg "onward_places" s_onward_places ["text", "places", "barred"] := ⟨_, _, F11, PySem.W.mg_of X G a11, F11.binds (ps := ["text", "places", "barred"]) fun _ _ _ _ _ _ us hl => match us, hl with | [_, _, _], _ => rfl⟩
  have F12 := fun_mk (st := s_cut) l12 c12 k12
  have D12 : DefAt K mg "cut" s_cut ["words", "others", "text", "barred"] := ⟨_, _, F12, PySem.W.mg_of X G a12, F12.binds (ps := ["words", "others", "text", "barred"]) fun _ _ _ _ _ _ us hl => match us, hl with | [_, _, _, _], _ => rfl⟩
  have F13 := fun_mk (st := s_added) l13 c13 k13
  have D13 : DefAt K mg "added" s_added ["pieces", "others"] := ⟨_, _, F13, PySem.W.mg_of X G a13, F13.binds (ps := ["pieces", "others"]) fun _ _ _ _ _ _ us hl => match us, hl with | [_, _], _ => rfl⟩
  have F14 := fun_mk (st := s_gone_through) l14 c14 k14
  have D14 : DefAt K mg "gone_through" s_gone_through ["words", "others", "first", "barred"] := ⟨_, _, F14, PySem.W.mg_of X G a14, F14.binds (ps := ["words", "others", "first", "barred"]) fun _ _ _ _ _ _ us hl => match us, hl with | [_, _, _, _], _ => rfl⟩
  have F15 := fun_mk (st := s_rows_alike) l15 c15 k15
  have D15 : DefAt K mg "rows_alike" s_rows_alike ["one", "other"] := ⟨_, _, F15, PySem.W.mg_of X G a15, F15.binds (ps := ["one", "other"]) fun _ _ _ _ _ _ us hl => match us, hl with | [_, _], _ => rfl⟩
  have F16 := fun_mk (st := s_worths_of) l16 c16 k16
  have D16 : DefAt K mg "worths_of" s_worths_of ["words", "ends"] := ⟨_, _, F16, PySem.W.mg_of X G a16, F16.binds (ps := ["words", "ends"]) fun _ _ _ _ _ _ us hl => match us, hl with | [_, _], _ => rfl⟩
  have F17 := fun_mk (st := s_sizes_of) l17 c17 k17
  have D17 : DefAt K mg "sizes_of" s_sizes_of ["words", "names"] := ⟨_, _, F17, PySem.W.mg_of X G a17, F17.binds (ps := ["words", "names"]) fun _ _ _ _ _ _ us hl => match us, hl with | [_, _], _ => rfl⟩
  have F18 := fun_mk (st := s_total_of) l18 c18 k18
  have D18 : DefAt K mg "total_of" s_total_of ["worths", "first"] := ⟨_, _, F18, PySem.W.mg_of X G a18, F18.binds (ps := ["worths", "first"]) fun _ _ _ _ _ _ us hl => match us, hl with | [_, _], _ => rfl⟩
  have F19 := fun_mk (st := s_way_down) l19 c19 k19
  have D19 : DefAt K mg "way_down" s_way_down ["words", "worths", "first", "left"] := ⟨_, _, F19, PySem.W.mg_of X G a19, F19.binds (ps := ["words", "worths", "first", "left"]) fun _ _ _ _ _ _ us hl => match us, hl with | [_, _, _, _], _ => rfl⟩
  have F20 := fun_mk (st := s_worth_ahead) l20 c20 k20
  have D20 : DefAt K mg "worth_ahead" s_worth_ahead ["words", "worths", "first", "way"] := ⟨_, _, F20, PySem.W.mg_of X G a20, F20.binds (ps := ["words", "worths", "first", "way"]) fun _ _ _ _ _ _ us hl => match us, hl with | [_, _, _, _], _ => rfl⟩
  have F21 := fun_mk (st := s_cut_out) l21 c21 k21
  have D21 : DefAt K mg "cut_out" s_cut_out ["words", "sizes", "first", "start", "many"] := ⟨_, _, F21, PySem.W.mg_of X G a21, F21.binds (ps := ["words", "sizes", "first", "start", "many"]) fun _ _ _ _ _ _ us hl => match us, hl with | [_, _, _, _, _], _ => rfl⟩
  have F22 := fun_mk (st := s_words_at) l22 c22 k22
  have D22 : DefAt K mg "words_at" s_words_at ["book", "age"] := ⟨_, _, F22, PySem.W.mg_of X G a22, F22.binds (ps := ["book", "age"]) fun _ _ _ _ _ _ us hl => match us, hl with | [_, _], _ => rfl⟩
  have F23 := fun_mk (st := s_need_place) l23 c23 k23
  have D23 : DefAt K mg "need_place" s_need_place ["place", "many"] := ⟨_, _, F23, PySem.W.mg_of X G a23, F23.binds (ps := ["place", "many"]) fun _ _ _ _ _ _ us hl => match us, hl with | [_, _], _ => rfl⟩
  have F24 := fun_mk (st := s_need_cut) l24 c24 k24
  have D24 : DefAt K mg "need_cut" s_need_cut ["start", "many", "size"] := ⟨_, _, F24, PySem.W.mg_of X G a24, F24.binds (ps := ["start", "many", "size"]) fun _ _ _ _ _ _ us hl => match us, hl with | [_, _, _], _ => rfl⟩
  have F25 := fun_mk (st := s_way) l25 c25 k25
  have D25 : DefAt K mg "way" s_way ["book", "age", "place"] := ⟨_, _, F25, PySem.W.mg_of X G a25, F25.binds (ps := ["book", "age", "place"]) fun _ _ _ _ _ _ us hl => match us, hl with | [_, _, _], _ => rfl⟩
  have F26 := fun_mk (st := s_letter_at) l26 c26 k26
  have D26 : DefAt K mg "letter_at" s_letter_at ["book", "age", "place"] := ⟨_, _, F26, PySem.W.mg_of X G a26, F26.binds (ps := ["book", "age", "place"]) fun _ _ _ _ _ _ us hl => match us, hl with | [_, _, _], _ => rfl⟩
  have F27 := fun_mk (st := s_stretch) l27 c27 k27
  have D27 : DefAt K mg "stretch" s_stretch ["book", "age", "start", "many"] := ⟨_, _, F27, PySem.W.mg_of X G a27, F27.binds (ps := ["book", "age", "start", "many"]) fun _ _ _ _ _ _ us hl => match us, hl with | [_, _, _, _], _ => rfl⟩
  have F28 := fun_mk (st := s_worths_by) l28 c28 k28
  have D28 : DefAt K mg "worths_by" s_worths_by ["book", "words", "letter"] := ⟨_, _, F28, PySem.W.mg_of X G a28, F28.binds (ps := ["book", "words", "letter"]) fun _ _ _ _ _ _ us hl => match us, hl with | [_, _, _], _ => rfl⟩
  have F29 := fun_mk (st := s_ahead) l29 c29 k29
  have D29 : DefAt K mg "ahead" s_ahead ["book", "age", "place", "letter"] := ⟨_, _, F29, PySem.W.mg_of X G a29, F29.binds (ps := ["book", "age", "place", "letter"]) fun _ _ _ _ _ _ us hl => match us, hl with | [_, _, _, _], _ => rfl⟩
  have F30 := fun_mk (st := s_tally) l30 c30 k30
  have D30 : DefAt K mg "tally" s_tally ["signs", "text"] := ⟨_, _, F30, PySem.W.mg_of X G a30, F30.binds (ps := ["signs", "text"]) fun _ _ _ _ _ _ us hl => match us, hl with | [_, _], _ => rfl⟩
  have F31 := fun_mk (st := s_table) l31 c31 k31
  have D31 : DefAt K mg "table" s_table ["book"] := ⟨_, _, F31, PySem.W.mg_of X G a31, F31.binds (ps := ["book"]) fun _ _ _ _ _ _ us hl => match us, hl with | [_], _ => rfl⟩
  have F32 := fun_mk (st := s_passed) l32 c32 k32
  have D32 : DefAt K mg "passed" s_passed ["rates", "amounts"] := ⟨_, _, F32, PySem.W.mg_of X G a32, F32.binds (ps := ["rates", "amounts"]) fun _ _ _ _ _ _ us hl => match us, hl with | [_, _], _ => rfl⟩
  have F33 := fun_mk (st := s_counts_from) l33 c33 k33
  have D33 : DefAt K mg "counts_from" s_counts_from ["rates", "amounts", "age"] := ⟨_, _, F33, PySem.W.mg_of X G a33, F33.binds (ps := ["rates", "amounts", "age"]) fun _ _ _ _ _ _ us hl => match us, hl with | [_, _, _], _ => rfl⟩
  have F34 := fun_mk (st := s_counts) l34 c34 k34
  have D34 : DefAt K mg "counts" s_counts ["book", "age"] := ⟨_, _, F34, PySem.W.mg_of X G a34, F34.binds (ps := ["book", "age"]) fun _ _ _ _ _ _ us hl => match us, hl with | [_, _], _ => rfl⟩
  have F35 := fun_mk (st := s_length) l35 c35 k35
  have D35 : DefAt K mg "length" s_length ["book", "age"] := ⟨_, _, F35, PySem.W.mg_of X G a35, F35.binds (ps := ["book", "age"]) fun _ _ _ _ _ _ us hl => match us, hl with | [_, _], _ => rfl⟩
  have F36 := fun_mk (st := s_law_whole) l36 c36 k36
  have D36 : DefAt K mg "_law_whole" s_law_whole ["_law_found"] := ⟨_, _, F36, PySem.W.mg_of X G a36, F36.binds (ps := ["_law_found"]) fun _ _ _ _ _ _ us hl => match us, hl with | [_], _ => rfl⟩
  have F37 := fun_mk (st := s_law_pen) l37 c37 k37
  have D37 : DefAt K mg "_law_pen" s_law_pen ["_law_script", "_law_k"] := ⟨_, _, F37, PySem.W.mg_of X G a37, F37.binds (ps := ["_law_script", "_law_k"]) fun _ _ _ _ _ _ us hl => match us, hl with | [_, _], _ => rfl⟩
  have F38 := fun_mk (st := s_law_take) l38 c38 k38
  have D38 : DefAt K mg "_law_take" s_law_take ["_law_pen_here", "_law_size"] := ⟨_, _, F38, PySem.W.mg_of X G a38, F38.binds (ps := ["_law_pen_here", "_law_size"]) fun _ _ _ _ _ _ us hl => match us, hl with | [_, _], _ => rfl⟩
  have F39 := fun_mk (st := s_law_signs) l39 c39 k39
  have D39 : DefAt K mg "_law_signs" s_law_signs ["_law_pen_here", "_law_many"] := ⟨_, _, F39, PySem.W.mg_of X G a39, F39.binds (ps := ["_law_pen_here", "_law_many"]) fun _ _ _ _ _ _ us hl => match us, hl with | [_, _], _ => rfl⟩
  have F40 := fun_mk (st := s_law_text) l40 c40 k40
  have D40 : DefAt K mg "_law_text" s_law_text ["_law_pen_here", "_law_signs_here", "_law_many"] := ⟨_, _, F40, PySem.W.mg_of X G a40, F40.binds (ps := ["_law_pen_here", "_law_signs_here", "_law_many"]) fun _ _ _ _ _ _ us hl => match us, hl with | [_, _, _], _ => rfl⟩
  have F41 := fun_mk (st := s_law_cutting) l41 c41 k41
  have D41 : DefAt K mg "_law_cutting" s_law_cutting ["_law_pen_here", "_law_signs_here", "_law_many"] := ⟨_, _, F41, PySem.W.mg_of X G a41, F41.binds (ps := ["_law_pen_here", "_law_signs_here", "_law_many"]) fun _ _ _ _ _ _ us hl => match us, hl with | [_, _, _], _ => rfl⟩
  have F42 := fun_mk (st := s_law_pair) l42 c42 k42
  have D42 : DefAt K mg "_law_pair" s_law_pair ["_law_pen_here", "_law_sizes"] := ⟨_, _, F42, PySem.W.mg_of X G a42, F42.binds (ps := ["_law_pen_here", "_law_sizes"]) fun _ _ _ _ _ _ us hl => match us, hl with | [_, _], _ => rfl⟩
  have F43 := fun_mk (st := s_law_balanced) l43 c43 k43
  have D43 : DefAt K mg "_law_balanced" s_law_balanced ["_law_pen_here", "_law_atoms", "_law_most"] := ⟨_, _, F43, PySem.W.mg_of X G a43, F43.binds (ps := ["_law_pen_here", "_law_atoms", "_law_most"]) fun _ _ _ _ _ _ us hl => match us, hl with | [_, _, _], _ => rfl⟩
  have F44 := fun_mk (st := s_law_long_pair) l44 c44 k44
  have D44 : DefAt K mg "_law_long_pair" s_law_long_pair ["_law_pen_here"] := ⟨_, _, F44, PySem.W.mg_of X G a44, F44.binds (ps := ["_law_pen_here"]) fun _ _ _ _ _ _ us hl => match us, hl with | [_], _ => rfl⟩
  have F45 := fun_mk (st := s_law_spoil) l45 c45 k45
  have D45 : DefAt K mg "_law_spoil" s_law_spoil ["_law_book", "_law_spoil_here", "_law_at", "_law_sign"] := ⟨_, _, F45, PySem.W.mg_of X G a45, F45.binds (ps := ["_law_book", "_law_spoil_here", "_law_at", "_law_sign"]) fun _ _ _ _ _ _ us hl => match us, hl with | [_, _, _, _], _ => rfl⟩
  have F46 := fun_mk (st := s_law_by_letters) l46 c46 k46
  have D46 : DefAt K mg "_law_by_letters" s_law_by_letters ["_law_book", "_law_sums"] := ⟨_, _, F46, PySem.W.mg_of X G a46, F46.binds (ps := ["_law_book", "_law_sums"]) fun _ _ _ _ _ _ us hl => match us, hl with | [_, _], _ => rfl⟩
  have F47 := fun_mk (st := s_law_same) l47 c47 k47
  have D47 : DefAt K mg "_law_same" s_law_same ["_law_one", "_law_other", "_law_at_age", "_law_great"] := ⟨_, _, F47, PySem.W.mg_of X G a47, F47.binds (ps := ["_law_one", "_law_other", "_law_at_age", "_law_great"]) fun _ _ _ _ _ _ us hl => match us, hl with | [_, _, _, _], _ => rfl⟩
  have F48 := fun_mk (st := s_law_parted) l48 c48 k48
  have D48 : DefAt K mg "_law_parted" s_law_parted ["_law_one", "_law_other", "_law_n"] := ⟨_, _, F48, PySem.W.mg_of X G a48, F48.binds (ps := ["_law_one", "_law_other", "_law_n"]) fun _ _ _ _ _ _ us hl => match us, hl with | [_, _, _], _ => rfl⟩
  have F49 := fun_mk (st := s_law) l49 c49 k49
  have D49 : DefAt K mg "law" s_law ["_law_script"] := ⟨_, _, F49, PySem.W.mg_of X G a49, F49.binds (ps := ["_law_script"]) fun _ _ _ _ _ _ us hl => match us, hl with | [_], _ => rfl⟩
  have T : Facts K mg := ⟨D0, D1, D2, D3, D4, D5, D6, D7, D8, D9, D10, D11, D12, D13, D14, D15, D16, D17, D18, D19, D20, D21, D22, D23, D24, D25, D26, D27, D28, D29, D30, D31, D32, D33, D34, D35, D36, D37, D38, D39, D40, D41, D42, D43, D44, D45, D46, D47, D48, D49,
    PySem.W.mg_none_of X G z_len, PySem.W.mg_none_of X G z_list, PySem.W.mg_none_of X G z_tuple, PySem.W.mg_none_of X G z_sum, PySem.W.mg_none_of X G z_min, PySem.W.mg_none_of X G z_int, PySem.W.mg_none_of X G z_dict, PySem.W.mg_none_of X G z_sorted, PySem.W.mg_none_of X G z_isinstance, PySem.W.mg_none_of X G z_range, PySem.W.mg_none_of X G z_enumerate, PySem.W.mg_none_of X G z_reversed, PySem.W.mg_none_of X G z_str, PySem.W.mg_none_of X G z_bool,
    ⟨_, PySem.W.mg_of X G cst0, _, rfl⟩, ⟨_, PySem.W.mg_of X G cst1, _, rfl⟩, ⟨_, PySem.W.mg_of X G cst2, _, rfl⟩, ⟨_, PySem.W.mg_of X G cst3, _, rfl⟩, ⟨_, PySem.W.mg_of X G cst4, _, rfl⟩, ⟨_, PySem.W.mg_of X G cst5, _, rfl⟩, ⟨_, PySem.W.mg_of X G cst6, _, rfl⟩, ⟨_, PySem.W.mg_of X G cst7, _, rfl⟩, ⟨_, PySem.W.mg_of X G cst8, _, rfl⟩⟩
  have TM : TooF K mg C := ⟨PySem.W.mg_of X G aC, xC, kC, bC, tC, exm_self bC iC tC sC⟩
  exact ⟨PySem.W.fnOf "law" "law" (defArgs s_law) (defBody s_law) (defScope s_law) .none kV49 dc49 pm49 an49 cd49 ct49, fun s u => .of_eq rfl, fun base _ _ => law_ok F49 T TM⟩
theorem walk_law {l : PySem.W.OpenLaw} {q : Program} {loose : List Str} {XP : (Str → Option Value) → Heap → Prop} {YP : World → Heap → Prop} {d : DefRec} {K : Params → PySem.W.Frag} (hn : l.most = some 63) (hdf : d.params.defaults = [])
    (hY : ∀ (w : World) (h : Heap), YP w h → (K w.params).In h)
    (F : ∀ (w : World) (mg : Str → Option Value) (fa : Addr) (h : Heap), (K w.params).In h → h.Ns mainGlobals mg → mg d.name = some (.ref fa) →
      ∃ fd : FuncData, (∀ (s : Shared) (u : Value), BindsTo s fd ⟨[u], []⟩ [("_law_script", u)]) ∧ ∀ base : Heap, (K w.params).In base → base.Ns mainGlobals mg → FnOk l.prog w (K w.params) mg base CX0 6 fa fd ["_law_script"] (spLaw (K w.params))) :
    PySem.W.WalkO q loose XP YP l.row.toRowW d [] (fun f vs => PySem.call f vs) :=
  L2.walk_of (n := 63) (k := 6) (x := "_law_script") (CX := fun _ => CX0) (sp := fun w => spLaw (K w.params)) hn (by decide) hdf ⟨rfl, by decide, by decide⟩ hY F (fun _ _ a ns hl _ hS => ⟨a, ns, rfl, hS, hl, fun _ => rfl⟩) fun _ _ _ _ _ z => z
end Lg
open PySem PySem.W PyProof.Rows
set_option maxHeartbeats 0 in
theorem PySem.Challenge.cw_linegrow_k65_whole_rows_alike_at_great_p_holds : PySem.Challenge.rw_linegrow_k65_whole_rows_alike_at_great_p.Holds := by
  w_on; o_law; k_head; (case hw => w_witness2)
  k_fill
  refine Lg.walk_law (l := PySem.Challenge.rw_linegrow_k65_whole_rows_alike_at_great_p) rfl rfl (fun w h Y => PySem.W.kIn_of Y) ?F
  case F =>
    intro w mg fa h KX G hmg
    refine' Lg.all_mk KX G hmg ?a0 ?l0 ?c0 ?k0 ?a1 ?l1 ?c1 ?k1 ?a2 ?l2 ?c2 ?k2 ?a3 ?l3 ?c3 ?k3 ?a4 ?l4 ?c4 ?k4 ?a5 ?l5 ?c5 ?k5 ?a6 ?l6 ?c6 ?k6 ?a7 ?l7 ?c7 ?k7 ?a8 ?l8 ?c8 ?k8 ?a9 ?l9 ?c9 ?k9 ?a10 ?l10 ?c10 ?k10 ?a11 ?l11 ?c11 ?k11 ?a12 ?l12 ?c12 ?k12 ?a13 ?l13 ?c13 ?k13 ?a14 ?l14 ?c14 ?k14 ?a15 ?l15 ?c15 ?k15 ?a16 ?l16 ?c16 ?k16 ?a17 ?l17 ?c17 ?k17 ?a18 ?l18 ?c18 ?k18 ?a19 ?l19 ?c19 ?k19 ?a20 ?l20 ?c20 ?k20 ?a21 ?l21 ?c21 ?k21 ?a22 ?l22 ?c22 ?k22 ?a23 ?l23 ?c23 ?k23 ?a24 ?l24 ?c24 ?k24 ?a25 ?l25 ?c25 ?k25 ?a26 ?l26 ?c26 ?k26 ?a27 ?l27 ?c27 ?k27 ?a28 ?l28 ?c28 ?k28 ?a29 ?l29 ?c29 ?k29 ?a30 ?l30 ?c30 ?k30 ?a31 ?l31 ?c31 ?k31 ?a32 ?l32 ?c32 ?k32 ?a33 ?l33 ?c33 ?k33 ?a34 ?l34 ?c34 ?k34 ?a35 ?l35 ?c35 ?k35 ?a36 ?l36 ?c36 ?k36 ?a37 ?l37 ?c37 ?k37 ?a38 ?l38 ?c38 ?k38 ?a39 ?l39 ?c39 ?k39 ?a40 ?l40 ?c40 ?k40 ?a41 ?l41 ?c41 ?k41 ?a42 ?l42 ?c42 ?k42 ?a43 ?l43 ?c43 ?k43 ?a44 ?l44 ?c44 ?k44 ?a45 ?l45 ?c45 ?k45 ?a46 ?l46 ?c46 ?k46 ?a47 ?l47 ?c47 ?k47 ?a48 ?l48 ?c48 ?k48 ?a49 ?l49 ?c49 ?k49 ?aC ?xC ?kC ?bC ?tC ?iC ?sC ?z_len ?z_list ?z_tuple ?z_sum ?z_min ?z_int ?z_dict ?z_sorted ?z_isinstance ?z_range ?z_enumerate ?z_reversed ?z_str ?z_bool ?cst0 ?cst1 ?cst2 ?cst3 ?cst4 ?cst5 ?cst6 ?cst7 ?cst8
    (case a0 => k_is)
    (case l0 => k_is)
    (case c0 => k_is)
    (case k0 => k_is)
    (case a1 => k_is)
    (case l1 => k_is)
    (case c1 => k_is)
    (case k1 => k_is)
    (case a2 => k_is)
    (case l2 => k_is)
    (case c2 => k_is)
    (case k2 => k_is)
    (case a3 => k_is)
    (case l3 => k_is)
    (case c3 => k_is)
    (case k3 => k_is)
    (case a4 => k_is)
    (case l4 => k_is)
    (case c4 => k_is)
    (case k4 => k_is)
    (case a5 => k_is)
    (case l5 => k_is)
    (case c5 => k_is)
    (case k5 => k_is)
    (case a6 => k_is)
    (case l6 => k_is)
    (case c6 => k_is)
    (case k6 => k_is)
    (case a7 => k_is)
    (case l7 => k_is)
    (case c7 => k_is)
    (case k7 => k_is)
    (case a8 => k_is)
    (case l8 => k_is)
    (case c8 => k_is)
    (case k8 => k_is)
    (case a9 => k_is)
    (case l9 => k_is)
    (case c9 => k_is)
    (case k9 => k_is)
    (case a10 => k_is)
    (case l10 => k_is)
    (case c10 => k_is)
    (case k10 => k_is)
    (case a11 => k_is)
    (case l11 => k_is)
    (case c11 => k_is)
    (case k11 => k_is)
    (case a12 => k_is)
    (case l12 => k_is)
    (case c12 => k_is)
    (case k12 => k_is)
    (case a13 => k_is)
    (case l13 => k_is)
    (case c13 => k_is)
    (case k13 => k_is)
    (case a14 => k_is)
    (case l14 => k_is)
    (case c14 => k_is)
    (case k14 => k_is)
    (case a15 => k_is)
    (case l15 => k_is)
    (case c15 => k_is)
    (case k15 => k_is)
    (case a16 => k_is)
    (case l16 => k_is)
    (case c16 => k_is)
    (case k16 => k_is)
    (case a17 => k_is)
    (case l17 => k_is)
    (case c17 => k_is)
    (case k17 => k_is)
    (case a18 => k_is)
    (case l18 => k_is)
    (case c18 => k_is)
    (case k18 => k_is)
    (case a19 => k_is)
    (case l19 => k_is)
    (case c19 => k_is)
    (case k19 => k_is)
    (case a20 => k_is)
    (case l20 => k_is)
    (case c20 => k_is)
    (case k20 => k_is)
    (case a21 => k_is)
    (case l21 => k_is)
    (case c21 => k_is)
    (case k21 => k_is)
    (case a22 => k_is)
    (case l22 => k_is)
    (case c22 => k_is)
    (case k22 => k_is)
    (case a23 => k_is)
    (case l23 => k_is)
    (case c23 => k_is)
    (case k23 => k_is)
    (case a24 => k_is)
    (case l24 => k_is)
    (case c24 => k_is)
    (case k24 => k_is)
    (case a25 => k_is)
    (case l25 => k_is)
    (case c25 => k_is)
    (case k25 => k_is)
    (case a26 => k_is)
    (case l26 => k_is)
    (case c26 => k_is)
    (case k26 => k_is)
    (case a27 => k_is)
    (case l27 => k_is)
    (case c27 => k_is)
    (case k27 => k_is)
    (case a28 => k_is)
    (case l28 => k_is)
    (case c28 => k_is)
    (case k28 => k_is)
    (case a29 => k_is)
    (case l29 => k_is)
    (case c29 => k_is)
    (case k29 => k_is)
    (case a30 => k_is)
    (case l30 => k_is)
    (case c30 => k_is)
    (case k30 => k_is)
    (case a31 => k_is)
    (case l31 => k_is)
    (case c31 => k_is)
    (case k31 => k_is)
    (case a32 => k_is)
    (case l32 => k_is)
    (case c32 => k_is)
    (case k32 => k_is)
    (case a33 => k_is)
    (case l33 => k_is)
    (case c33 => k_is)
    (case k33 => k_is)
    (case a34 => k_is)
    (case l34 => k_is)
    (case c34 => k_is)
    (case k34 => k_is)
    (case a35 => k_is)
    (case l35 => k_is)
    (case c35 => k_is)
    (case k35 => k_is)
    (case a36 => k_is)
    (case l36 => k_is)
    (case c36 => k_is)
    (case k36 => k_is)
    (case a37 => k_is)
    (case l37 => k_is)
    (case c37 => k_is)
    (case k37 => k_is)
    (case a38 => k_is)
    (case l38 => k_is)
    (case c38 => k_is)
    (case k38 => k_is)
    (case a39 => k_is)
    (case l39 => k_is)
    (case c39 => k_is)
    (case k39 => k_is)
    (case a40 => k_is)
    (case l40 => k_is)
    (case c40 => k_is)
    (case k40 => k_is)
    (case a41 => k_is)
    (case l41 => k_is)
    (case c41 => k_is)
    (case k41 => k_is)
    (case a42 => k_is)
    (case l42 => k_is)
    (case c42 => k_is)
    (case k42 => k_is)
    (case a43 => k_is)
    (case l43 => k_is)
    (case c43 => k_is)
    (case k43 => k_is)
    (case a44 => k_is)
    (case l44 => k_is)
    (case c44 => k_is)
    (case k44 => k_is)
    (case a45 => k_is)
    (case l45 => k_is)
    (case c45 => k_is)
    (case k45 => k_is)
    (case a46 => k_is)
    (case l46 => k_is)
    (case c46 => k_is)
    (case k46 => k_is)
    (case a47 => k_is)
    (case l47 => k_is)
    (case c47 => k_is)
    (case k47 => k_is)
    (case a48 => k_is)
    (case l48 => k_is)
    (case c48 => k_is)
    (case k48 => k_is)
    (case a49 => k_is)
    (case l49 => k_is)
    (case c49 => k_is)
    (case k49 => k_is)
    (case aC => k_is)
    (case xC => k_exc)
    (case kC => k_is)
    (case bC => k_is)
    (case tC => k_is)
    (case iC => k_is)
    (case sC => first | rfl | k_is)
    (case z_len => k_is)
    (case z_list => k_is)
    (case z_tuple => k_is)
    (case z_sum => k_is)
    (case z_min => k_is)
    (case z_int => k_is)
    (case z_dict => k_is)
    (case z_sorted => k_is)
    (case z_isinstance => k_is)
    (case z_range => k_is)
    (case z_enumerate => k_is)
    (case z_reversed => k_is)
    (case z_str => k_is)
    (case z_bool => k_is)
    (case cst0 => k_is)
    (case cst1 => k_is)
    (case cst2 => k_is)
    (case cst3 => k_is)
    (case cst4 => k_is)
    (case cst5 => k_is)
    (case cst6 => k_is)
    (case cst7 => k_is)
    (case cst8 => k_is)
