import PyProof.Rows.All
import HandS.SortRule
import Wide.All
import OpenK.AllK
import Wide.FinOn
import HandS.ForMost
import HandS.Evl
import HandS.DictComp
import HandS.ListItems
import HandS.List
import HandS.Star
import HandS.Conv
import HandS.Style
import HandS.NoneIn
import KE.KDictPairs
import HandS.More
import PyProof.ReprRoads
import PyProof.CallFns
import HandS.Ends
import HandS.HeadEnd
import HandS.Defaults
import HandS.Words
import HandS.Codes
import PySem.Challenge.RW_effectonce_k64_whole_all_that_is_told
import HandS.Small
import HandS.Head0
import HandS.Head1
import HandS.Head2
import HandS.HeadHook1
import HandS.HeadHook2
import HandS.HeadHook3
set_option Elab.async false
set_option linter.all false
set_option maxRecDepth 100000
/-! sorting, in plain lists -/
namespace E64
open PySem PySem.Spec PyProof.Rows
section
variable {α β : Type}
def insB (lt : α → α → Bool) (x : α) : List α → List α
  | [] => [x]
  | y :: l => if lt y x = true then y :: insB lt x l else x :: y :: l
def srtB (lt : α → α → Bool) : List α → List α
  | [] => []
  | x :: l => insB lt x (srtB lt l)
theorem insB_perm (lt : α → α → Bool) (x : α) : ∀ l : List α, (insB lt x l).Perm (x :: l)
  | [] => List.Perm.refl _
  | y :: l => by
    unfold insB
    by_cases h : lt y x = true
    · rw [if_pos h]; exact ((insB_perm lt x l).cons y).trans (List.Perm.swap x y l)
    · rw [if_neg h]
theorem srtB_perm (lt : α → α → Bool) : ∀ l : List α, (srtB lt l).Perm l
  | [] => List.Perm.refl _
  | x :: l => (insB_perm lt x _).trans ((srtB_perm lt l).cons x)
abbrev Sd (lt : α → α → Bool) (l : List α) : Prop := l.Pairwise fun x y => lt y x = false
theorem insB_sd {lt : α → α → Bool} (O : SrtO.Swo lt) (x : α) : ∀ {l : List α}, Sd lt l → Sd lt (insB lt x l)
  | [], _ => List.pairwise_singleton _ _
  | y :: l, h => by
    obtain ⟨h1, h2⟩ := List.pairwise_cons.mp h
    unfold insB
    by_cases q : lt y x = true
    · rw [if_pos q]
      refine List.pairwise_cons.mpr ⟨fun z hz => ?_, insB_sd O x h2⟩
      rcases List.mem_cons.mp ((insB_perm lt x l).mem_iff.mp hz) with e | e
      · rw [e]; exact O.asym _ _ q
      · exact h1 z e
    · rw [if_neg q]
      have q' : lt y x = false := by simpa using q
      refine List.pairwise_cons.mpr ⟨fun z hz => ?_, h⟩
      rcases List.mem_cons.mp hz with e | e
      · rw [e]; exact q'
      · exact O.tr _ _ _ q' (h1 z e)
theorem srtB_sd {lt : α → α → Bool} (O : SrtO.Swo lt) : ∀ l : List α, Sd lt (srtB lt l)
  | [] => List.Pairwise.nil
  | x :: l => insB_sd O x (srtB_sd O l)
/-- a sorted list is told by its items -/
theorem sd_uniq {lt : α → α → Bool} : ∀ {l m : List α}, (∀ x ∈ l, ∀ y ∈ l, lt x y = false → lt y x = false → x = y) → Sd lt l → Sd lt m → l.Perm m → l = m
  | [], m, _, _, _, p => p.nil_eq
  | x :: l, [], _, _, _, p => absurd p.length_eq (by simp)
  | x :: l, y :: m, a, h1, h2, p => by
    obtain ⟨g1, g2⟩ := List.pairwise_cons.mp h1
    obtain ⟨g3, g4⟩ := List.pairwise_cons.mp h2
    have hy : y ∈ x :: l := p.mem_iff.mpr List.mem_cons_self
    have hx : x ∈ y :: m := p.mem_iff.mp List.mem_cons_self
    have e : x = y := by
      rcases List.mem_cons.mp hy with e | hy'
      · exact e.symm
      · rcases List.mem_cons.mp hx with e | hx'
        · exact e
        · exact a x List.mem_cons_self y hy (g3 x hx') (g1 y hy')
    subst e
    rw [sd_uniq (fun u hu v hv => a u (List.mem_cons_of_mem _ hu) v (List.mem_cons_of_mem _ hv)) g2 g4 p.cons_inv]
theorem srtB_of {lt : α → α → Bool} (O : SrtO.Swo lt) {l m : List α} (a : ∀ x ∈ m, ∀ y ∈ m, lt x y = false → lt y x = false → x = y) (h : Sd lt m) (p : m.Perm l) : m = srtB lt l :=
  sd_uniq a h (srtB_sd O l) (p.trans (srtB_perm lt l).symm)
theorem srtB_congr {lt : α → α → Bool} (O : SrtO.Swo lt) {l m : List α} (a : ∀ x ∈ m, ∀ y ∈ m, lt x y = false → lt y x = false → x = y) (p : m.Perm l) : srtB lt m = srtB lt l := by
  have hm : ∀ x, x ∈ srtB lt m → x ∈ m := fun x h => (srtB_perm lt m).mem_iff.mp h
  exact srtB_of O (fun x hx y hy => a x (hm x hx) y (hm y hy)) (srtB_sd O m) ((srtB_perm lt m).trans p)
theorem insB_map {lt : α → α → Bool} {lt' : β → β → Bool} {f : α → β} (h : ∀ x y, lt' (f x) (f y) = lt x y) (x : α) : ∀ l : List α, insB lt' (f x) (l.map f) = (insB lt x l).map f
  | [] => rfl
  | y :: l => by
    rw [List.map_cons]
    unfold insB
    rw [h]
    by_cases q : lt y x = true
    · rw [if_pos q, if_pos q, insB_map h x l, List.map_cons]
    · rw [if_neg q, if_neg q] <;> rfl
theorem srtB_map {lt : α → α → Bool} {lt' : β → β → Bool} {f : α → β} (h : ∀ x y, lt' (f x) (f y) = lt x y) : ∀ l : List α, srtB lt' (l.map f) = (srtB lt l).map f
  | [] => rfl
  | x :: l => by
    rw [List.map_cons]
    show insB lt' (f x) (srtB lt' (l.map f)) = (insB lt x (srtB lt l)).map f
    rw [srtB_map h l, insB_map h]
end
/-! texts -/
def ltC (a b : List Nat) : Bool := decide (a < b)
def ltS (x y : Str) : Bool := decide (x.cps.toList < y.cps.toList)
theorem lex_not {a b : List Nat} : decide (a < b) = false ↔ b ≤ a := by rw [decide_eq_false_iff_not]; exact Iff.rfl
theorem swoC : SrtO.Swo ltC := by
  refine ⟨fun x y h => ?_, fun x y z h1 h2 => ?_⟩
  · have h : x < y := of_decide_eq_true h
    exact lex_not.mpr (List.le_of_lt h)
  · have h1 := lex_not.mp h1
    have h2 := lex_not.mp h2
    exact lex_not.mpr (List.le_trans h1 h2)
theorem swoS : SrtO.Swo ltS := ⟨fun x y h => swoC.asym _ _ h, fun x y z h1 h2 => swoC.tr _ _ _ h1 h2⟩
theorem str_ext {x y : Str} (h : x.cps.toList = y.cps.toList) : x = y := by
  cases x; cases y; simp only [Str.mk.injEq]; exact Array.toList_inj.mp h
theorem ltS_anti {x y : Str} (h1 : ltS x y = false) (h2 : ltS y x = false) : x = y := str_ext (List.le_antisymm (lex_not.mp h2) (lex_not.mp h1))
theorem ltS_ir (x : Str) : ltS x x = false := swoS.refl x
theorem rising_sd : ∀ (l : List Str) (p : Str), risingS p l = true → Sd ltS (p :: l)
  | [], p, _ => List.pairwise_singleton _ _
  | x :: l, p, h => by
    unfold risingS at h
    rw [Bool.and_eq_true, ltCps_eq] at h
    have h0 : ltS x p = false := by simpa [ltS] using h.1
    have ih := rising_sd l x h.2
    refine List.pairwise_cons.mpr ⟨fun z hz => ?_, ih⟩
    rcases List.mem_cons.mp hz with e | e
    · rw [e]; exact h0
    · exact swoS.tr _ _ _ h0 ((List.pairwise_cons.mp ih).1 z e)
theorem sortedS_sd : ∀ (l : List Str), sortedS l = true → Sd ltS l
  | [], _ => List.Pairwise.nil
  | x :: l, h => rising_sd l x h
theorem sorted_is {l m : List Str} (h : sortedS m = true) (p : m.Perm l) : m = srtB ltS l := srtB_of swoS (fun x _ y _ h1 h2 => ltS_anti h1 h2) (sortedS_sd m h) p
end E64
set_option maxHeartbeats 4000000
/-! tuples laid with their object: no dict of their own -/
namespace E64
open PySem PySem.Spec PyProof.Rows L2
section
variable {X : Cx} {pos : Pos} {es : List Expr} {t : TA}
def tTupP (t : TA) : TE := fun σ H Q => t σ H fun xs H1 => xs.length ≤ sizeLine ∧ ∀ (p : Addr) (o : Obj), o.dict = none → H1 p = none → Q (.ref p) (upd H1 p (.frz o (.tup xs)))
theorem pe_tupP {x1} (h : PA X es t) : PE X (.Tuple es x1 pos) (tTupP t) := by
  refine ⟨fun pins s σ H Q I hq => ?_⟩
  refine wpAny_Tuple_spliced (thn (h.run pos pins s σ H _ I hq) fun us s1 ⟨xs, H1, I1, r, z, q⟩ => ⟨by rw [← r.length]; exact z, ?_⟩)
  have e : (s1.heap.push { cls := .type "tuple", data := .seq us.toArray }).get? s1.heap.objs.size = some { cls := .type "tuple", data := .seq us.toArray } := Heap.get?_push_size _ rfl
  refine ⟨.ref s1.heap.objs.size, upd H1 s1.heap.objs.size (.frz { cls := .type "tuple", data := .seq us.toArray } (.tup xs)), I1.laid (t' := s1.toks) (fun b u e => Heap.get?_push_of_some _ e) (Nat.le_refl _) ?_, rfl, q _ _ rfl (I1.hok.fresh (Nat.le_refl _))⟩
  exact ⟨e, z, us, r, ⟨_, e, rfl, _, rfl⟩⟩
def rCatTP (K : PySem.W.Frag) : R2 := fun x y H Q => ∃ a b xs ys, x = .ref a ∧ y = .ref b ∧ SqT K H a xs ∧ SqT K H b ys ∧ xs ≠ [] ∧ xs.length + ys.length ≤ sizeLine ∧
  (ys = [] → Q (.ref a) H) ∧ (ys ≠ [] → ∀ (p : Addr) (o : Obj), o.dict = none → H p = none → Q (.ref p) (upd H p (.frz o (.tup (xs ++ ys)))))
theorem op_catTP : OpR X (binaryOp .Add) (rCatTP X.K) := by
  intro pins s σ H x y v u Q I rx ry h
  obtain ⟨a, b, xs, ys, rfl, rfl, ha, hb, hx, hz, q1, q2⟩ := h
  cases rx
  cases ry
  obtain ⟨its, r1, p1, _⟩ := I.tuple ha
  obtain ⟨its2, r2, p2, _⟩ := I.tuple hb
  refine HT.cat_tup p1 p2 (fun z => hx (r1.nil_iff.mp z)) (fun z => ⟨.ref a, H, I, rfl, q1 (r2.nil_iff.mp z)⟩) (fun z => ?_) (by rw [← r1.length, ← r2.length]; exact hz)
  refine ⟨.ref s.heap.objs.size, _, I.laid (t' := s.toks) (o := .frz { cls := .type "tuple", data := .seq (its ++ its2).toArray } (.tup (xs ++ ys))) (fun b ob q => Heap.get?_push_of_some _ q) (Nat.le_refl _) ?_, rfl, q2 (fun w => z (r2.nil_iff.mpr w)) _ _ rfl (I.hok.fresh (Nat.le_refl _))⟩
  exact ⟨Heap.get?_push_size _ rfl, by rw [List.length_append]; exact hz, _, r1.append r2, IsTup.new _ _⟩
def rSlTP (K : PySem.W.Frag) : V → Option Int → Option Int → Hp → VK → Prop := fun x lo hi H Q => ∃ a xs, x = .ref a ∧ SqT K H a xs ∧
  ¬ (HT.sIx xs.length 0 lo = 0 ∧ HT.sIx xs.length xs.length hi = xs.length) ∧ ∀ (p : Addr) (o : Obj), o.dict = none → H p = none → Q (.ref p) (upd H p (.frz o (.tup (cutV xs lo hi))))
theorem sl_tupP : SlR X (rSlTP X.K) := by
  intro pins s σ H x v vl vu lo hi sl Q I rx hs pl pu h
  obtain ⟨a, xs, rfl, hx, hw, q⟩ := h
  cases rx
  obtain ⟨its, r, ht, hz⟩ := I.tuple hx
  have hlen : its.toArray.size = xs.length := by rw [List.size_toArray]; exact r.length.symm
  refine ⟨"tuple", _, PyProof.Rows.slot_tuple_getitem.lookup, ht.typeIs, ?_⟩
  refine HT.getItem_tuple_cut ht hs pl pu (by rw [hlen]; exact hw) ?_ (by rw [hlen]; exact hz)
  rw [hlen]
  have e : ∀ o : Obj, o.isFreed = false → (s.heap.push o).get? s.heap.objs.size = some o := fun o h => Heap.get?_push_size _ h
  exact ⟨.ref s.heap.objs.size, _, I.laid (t' := s.toks) (o := .frz { cls := .type "tuple", data := .seq (List.take (HT.sIx xs.length xs.length hi - HT.sIx xs.length 0 lo) (List.drop (HT.sIx xs.length 0 lo) its.toArray.toList)).toArray } (.tup (cutV xs lo hi))) (fun b ob q => Heap.get?_push_of_some _ q) (Nat.le_refl _)
    ⟨e _ rfl, Nat.le_trans (cutV_length xs lo hi) hz, _, (r.drop (HT.sIx xs.length 0 lo)).take (HT.sIx xs.length xs.length hi - HT.sIx xs.length 0 lo), IsTup.new _ _⟩, rfl, q _ _ rfl (I.hok.fresh (Nat.le_refl _))⟩
def rTupP (K : PySem.W.Frag) : List V → Hp → VK → Prop := fun xs H Q => ∃ p ys, xs = [.ref p] ∧ ((SqL K H p ys ∧ ∀ (l : Addr) (o : Obj), o.dict = none → H l = none → Q (.ref l) (upd H l (.frz o (.tup ys)))) ∨ (SqT K H p ys ∧ Q (.ref p) H))
theorem call_tuple_ofP : CallR X (.type "tuple") (rTupP X.K) := by
  intro pins s σ H xs us Q I r h
  obtain ⟨p, ys, rfl, h⟩ := h
  obtain ⟨u, rfl, rx⟩ := vals1 r
  cases rx
  rcases h with ⟨hq, q⟩ | ⟨hq, q⟩
  · obtain ⟨its, r', pl, hz⟩ := I.list hq
    have hlen := r'.length
    refine call_tuple_list pl.isList (fun h' kp => ?_) (by simp only [List.size_toArray] <;> omega)
    have I1 : Inv X pins σ H { s with heap := h' } := I.kept (t' := s.toks) kp
    have e : (h'.push { cls := .type "tuple", data := .seq its.toArray }).get? h'.objs.size = some { cls := .type "tuple", data := .seq its.toArray } := Heap.get?_push_size _ rfl
    have I2 : Inv X pins σ (upd H h'.objs.size (.frz { cls := .type "tuple", data := .seq its.toArray } (.tup ys))) { s with heap := h'.push { cls := .type "tuple", data := .seq its.toArray } } :=
      I1.laid (t' := s.toks) (fun b o e => Heap.get?_push_of_some _ e) (Nat.le_refl _) (show ObjOk X.prog X.w _ _ _ (.frz _ (.tup ys)) from ⟨e, hz, its, r', IsTup.new _ _⟩)
    exact ⟨.ref h'.objs.size, _, I2, rfl, q _ _ rfl (I1.hok.fresh (Nat.le_refl _))⟩
  · obtain ⟨its, r', pl, hz⟩ := I.tuple hq
    exact call_tuple_same pl ⟨.ref p, H, I, rfl, q⟩
end
end E64
/-! The data layer: values as plain data, the frozen heap, what an expression and a statement do to data. -/
namespace E64
open PySem L2

/-- plain data; src: the source of the drawn numbers -/
inductive D where
  | non | bl (b : Bool) | int (i : Int) | str (x : Str) | tup (xs : List D) | lst (xs : List D) | dct (kvs : List (Str × D)) | src | prs (xs : List D)

/-- where the source stands: its dict, its list of cells -/
structure Sa where
  s : Addr
  c : Addr

def srcD (ca : Addr) (l m t : Int) : List (Key × V) := [(.inr "cells", .ref ca), (.inr "left", .int l), (.inr "mixed", .int m), (.inr "turn", .int t)]
/-- the source stands in H, outside of the frozen heap R -/
def SrcOk (S : Sa) (R H : Hp) : Prop := R S.s = none ∧ R S.c = none ∧ ∃ (cs : List Int) (l m t : Int), H S.s = some (.dK (srcD S.c l m t)) ∧ H S.c = some (.lst (cs.map V.int))

/-- R is a part of H (a dict may be locked) -/
structure Rx (R H : Hp) : Prop where
  rd : ∀ a o, R a = some o → Rd H a o
  nf : ∀ a f o, R a = some (.frz f o) → H a = some (.frz f o)
instance {R H : Hp} : CoeFun (Rx R H) fun _ => ∀ a o, R a = some o → Rd H a o := ⟨Rx.rd⟩
abbrev Ex := Evl.Ex
def TupR (K : PySem.W.Frag) (R : Hp) (a : Addr) (vs : List V) : Prop := ∃ o : Obj, o.dict = none ∧ R a = some (.frz o (.tup vs))
theorem TupR.mono {K : PySem.W.Frag} {R R' : Hp} {a : Addr} {vs : List V} (e : Ex R R') (h : TupR K R a vs) : TupR K R' a vs := h.elim fun o h => ⟨o, h.1, e _ _ h.2⟩
theorem TupR.sq {K : PySem.W.Frag} {R H : Hp} {a : Addr} {vs : List V} (e : Rx R H) (h : TupR K R a vs) : SqT K H a vs := h.elim fun o h => .inl (.inr ⟨o, e.nf _ _ _ h.2⟩)

mutual
/-- the value v stands for the data d, by the objects of the frozen heap R -/
inductive Rep (K : PySem.W.Frag) (S : Sa) (R : Hp) : V → D → Prop
  | non : Rep K S R .non .non
  | bl (b : Bool) : Rep K S R (.bl b) (.bl b)
  | int (i : Int) : Rep K S R (.int i) (.int i)
  | str (x : Str) : Rep K S R (.str x) (.str x)
  | src : Rep K S R (.ref S.s) .src
  | tup {a : Addr} {vs : List V} {ds : List D} : TupR K R a vs → RepL K S R vs ds → Rep K S R (.ref a) (.tup ds)
  | lst {a : Addr} {vs : List V} {ds : List D} : R a = some (.lst vs) → RepL K S R vs ds → Rep K S R (.ref a) (.lst ds)
  | dct {a : Addr} {ws : List (Key × V)} {kvs : List (Str × D)} : R a = some (.dK ws) → RepK K S R ws kvs → Rep K S R (.ref a) (.dct kvs)
  | prs {a : Addr} {vs : List V} {ds : List D} : R a = some (.tup vs) → RepL K S R vs ds → Rep K S R (.ref a) (.prs ds)
inductive RepL (K : PySem.W.Frag) (S : Sa) (R : Hp) : List V → List D → Prop
  | nil : RepL K S R [] []
  | cons {v : V} {vs : List V} {d : D} {ds : List D} : Rep K S R v d → RepL K S R vs ds → RepL K S R (v :: vs) (d :: ds)
inductive RepK (K : PySem.W.Frag) (S : Sa) (R : Hp) : List (Key × V) → List (Str × D) → Prop
  | nil : RepK K S R [] []
  | cons {k : Str} {v : V} {ws : List (Key × V)} {d : D} {kvs : List (Str × D)} : Rep K S R v d → RepK K S R ws kvs → RepK K S R ((.inr k, v) :: ws) ((k, d) :: kvs)
end
section
variable {K : PySem.W.Frag} {S : Sa} {R R' : Hp}
mutual
theorem Rep.mono (e : Ex R R') : ∀ {v : V} {d : D}, Rep K S R v d → Rep K S R' v d
  | _, _, .non => .non
  | _, _, .bl b => .bl b
  | _, _, .int i => .int i
  | _, _, .str x => .str x
  | _, _, .src => .src
  | _, _, .tup h r => .tup (h.mono e) (RepL.mono e r)
  | _, _, .lst h r => .lst (e _ _ h) (RepL.mono e r)
  | _, _, .dct h r => .dct (e _ _ h) (RepK.mono e r)
  | _, _, .prs h r => .prs (e _ _ h) (RepL.mono e r)
theorem RepL.mono (e : Ex R R') : ∀ {v : List V} {d : List D}, RepL K S R v d → RepL K S R' v d
  | _, _, .nil => .nil
  | _, _, .cons h r => .cons (Rep.mono e h) (RepL.mono e r)
theorem RepK.mono (e : Ex R R') : ∀ {v : List (Key × V)} {d : List (Str × D)}, RepK K S R v d → RepK K S R' v d
  | _, _, .nil => .nil
  | _, _, .cons h r => .cons (Rep.mono e h) (RepK.mono e r)
end
theorem RepL.len : ∀ {vs : List V} {ds : List D}, RepL K S R vs ds → vs.length = ds.length
  | _, _, .nil => rfl
  | _, _, .cons _ r => by rw [List.length_cons, List.length_cons, RepL.len r]
theorem RepK.len : ∀ {vs : List (Key × V)} {ds : List (Str × D)}, RepK K S R vs ds → vs.length = ds.length
  | _, _, .nil => rfl
  | _, _, .cons _ r => by rw [List.length_cons, List.length_cons, RepK.len r]
theorem RepL.get : ∀ {vs : List V} {ds : List D} {i : Nat} {d : D}, RepL K S R vs ds → ds[i]? = some d → ∃ v, vs[i]? = some v ∧ Rep K S R v d
  | _, _, _, _, .nil, e => by simp at e
  | _, _, 0, _, .cons h _, e => by simp at e; subst e; exact ⟨_, rfl, h⟩
  | _, _, i + 1, _, .cons _ r, e => by
    obtain ⟨v, h1, h2⟩ := RepL.get (i := i) r (by simpa using e)
    exact ⟨v, by simpa using h1, h2⟩
theorem RepL.getV : ∀ {vs : List V} {ds : List D} {i : Nat} {v : V}, RepL K S R vs ds → vs[i]? = some v → ∃ d, ds[i]? = some d ∧ Rep K S R v d
  | _, _, _, _, .nil, e => by simp at e
  | _, _, 0, _, .cons h _, e => by simp at e; subst e; exact ⟨_, rfl, h⟩
  | _, _, i + 1, _, .cons _ r, e => by
    obtain ⟨v, h1, h2⟩ := RepL.getV (i := i) r (by simpa using e)
    exact ⟨v, by simpa using h1, h2⟩
theorem RepL.append : ∀ {vs ws : List V} {ds es : List D}, RepL K S R vs ds → RepL K S R ws es → RepL K S R (vs ++ ws) (ds ++ es)
  | _, _, _, _, .nil, s => s
  | _, _, _, _, .cons h r, s => .cons h (RepL.append r s)
theorem RepL.drop : ∀ {vs : List V} {ds : List D} (n : Nat), RepL K S R vs ds → RepL K S R (vs.drop n) (ds.drop n)
  | _, _, 0, h => h
  | _, _, _ + 1, .nil => .nil
  | _, _, n + 1, .cons _ r => RepL.drop n r
theorem RepL.take : ∀ {vs : List V} {ds : List D} (n : Nat), RepL K S R vs ds → RepL K S R (vs.take n) (ds.take n)
  | _, _, 0, _ => .nil
  | _, _, _ + 1, .nil => .nil
  | _, _, n + 1, .cons h r => .cons h (RepL.take n r)
theorem RepL.map_of {ds : List D} {vs : List V} (h : RepL K S R vs ds) : ∀ d ∈ ds, ∃ v ∈ vs, Rep K S R v d := by
  intro d hd
  obtain ⟨i, hi⟩ := List.getElem?_of_mem hd
  obtain ⟨v, h1, h2⟩ := h.get hi
  exact ⟨v, List.mem_of_getElem? h1, h2⟩
end

/-! ### a step of the heap -/
structure Wd (S : Sa) (R H : Hp) : Prop where
  rh : Rx R H
  so : SrcOk S R H
/-- from (R, H) to (R', H'): all that stands is kept, but for the objects at xs and the source; what is frozen anew is new -/
structure Wx (S : Sa) (xs : List Addr) (R H R' H' : Hp) : Prop where
  rr : Ex R R'
  rh : Rx R' H'
  hh : ∀ a o, a ∉ xs → a ≠ S.s → a ≠ S.c → H a = some o → H' a = some o
  hn : ∀ a, H a ≠ none → H' a ≠ none
  fr : ∀ a, a ∉ xs → H a ≠ none → R a = none → R' a = none
  so : SrcOk S R' H'
section
variable {S : Sa} {xs ys : List Addr} {R H R1 H1 R2 H2 : Hp}
theorem Wd.refl (w : Wd S R H) : Wx S xs R H R H := ⟨Evl.Ex.refl R, w.rh, fun _ _ _ _ _ h => h, fun _ h => h, fun _ _ _ h => h, w.so⟩
theorem Wx.wd (w : Wx S xs R H R1 H1) : Wd S R1 H1 := ⟨w.rh, w.so⟩
theorem Wx.trans (a : Wx S xs R H R1 H1) (b : Wx S ys R1 H1 R2 H2) (hy : ∀ p ∈ ys, p ∈ xs ∨ H p = none) : Wx S xs R H R2 H2 := by
  have ny : ∀ p, p ∉ xs → H p ≠ none → p ∉ ys := fun p h1 h2 h3 => (hy p h3).elim h1 h2
  refine ⟨a.rr.trans b.rr, b.rh, fun p o h1 h2 h3 h4 => ?_, fun p h => b.hn p (a.hn p h), fun p h1 h2 h3 => ?_, b.so⟩
  · exact b.hh p o (ny p h1 (by rw [h4]; simp)) h2 h3 (a.hh p o h1 h2 h3 h4)
  · exact b.fr p (ny p h1 h2) (a.hn p h2) (a.fr p h1 h2 h3)
theorem Wx.tr (a : Wx S xs R H R1 H1) (b : Wx S xs R1 H1 R2 H2) : Wx S xs R H R2 H2 := a.trans b fun _ h => .inl h
theorem Wx.tr0 (a : Wx S xs R H R1 H1) (b : Wx S [] R1 H1 R2 H2) : Wx S xs R H R2 H2 := a.trans b fun _ h => nomatch h
theorem Wx.mono (a : Wx S xs R H R1 H1) (h : ∀ p ∈ xs, p ∈ ys) : Wx S ys R H R1 H1 :=
  ⟨a.rr, a.rh, fun p o h1 => a.hh p o fun z => h1 (h p z), a.hn, fun p h1 => a.fr p fun z => h1 (h p z), a.so⟩
theorem Wx.nil (a : Wx S [] R H R1 H1) : Wx S ys R H R1 H1 := a.mono fun _ h => nomatch h
/-- the source does not stand at a kept address -/
theorem Wd.nes (w : Wd S R H) {a : Addr} {o : HO} (h : R a = some o) : a ≠ S.s ∧ a ≠ S.c := ⟨fun e => (by rw [e, w.so.1] at h; cases h), fun e => (by rw [e, w.so.2.1] at h; cases h)⟩
theorem Wd.there (w : Wd S R H) : H S.s ≠ none ∧ H S.c ≠ none := by
  obtain ⟨_, _, cs, l, m, t, h1, h2⟩ := w.so
  exact ⟨by rw [h1]; simp, by rw [h2]; simp⟩
/-- an object laid and not frozen -/
theorem Wd.laid (w : Wd S R H) {p : Addr} {o : HO} (hp : H p = none) : Wx S xs R H R (upd H p o) := by
  obtain ⟨h1, h2⟩ := w.there
  have n1 : S.s ≠ p := fun e => h1 (by rw [e]; exact hp)
  have n2 : S.c ≠ p := fun e => h2 (by rw [e]; exact hp)
  have rne : ∀ a u, R a = some u → a ≠ p := fun a u e z => by
    rcases w.rh a u e with q | ⟨f, q⟩ <;> rw [z, hp] at q <;> cases q
  refine ⟨Evl.Ex.refl R, ⟨fun a u e => ?_, fun a f u e => by rw [upd_ne (rne _ _ e)]; exact w.rh.nf a f u e⟩, fun a u _ _ _ e => ?_, fun a e => ?_, fun _ _ _ h => h, ?_⟩
  · have ne := rne a u e
    rcases w.rh a u e with q | ⟨f, q⟩
    · exact .inl (by rw [upd_ne ne]; exact q)
    · exact .inr ⟨f, by rw [upd_ne ne]; exact q⟩
  · rw [upd_ne (ne_of_none e hp)]; exact e
  · rw [upd_ne fun z => e (by rw [z]; exact hp)]; exact e
  · obtain ⟨z1, z2, cs, l, m, t, q1, q2⟩ := w.so
    exact ⟨z1, z2, cs, l, m, t, by rw [upd_ne n1]; exact q1, by rw [upd_ne n2]; exact q2⟩
/-- an unfrozen object is frozen -/
theorem Wd.froze (w : Wd S R H) {p : Addr} {o : HO} (hp : H p = some o) (rp : R p = none) (n1 : p ≠ S.s) (n2 : p ≠ S.c) (hx : p ∈ xs) : Wx S xs R H (upd R p o) H := by
  obtain ⟨z1, z2, q⟩ := w.so
  refine ⟨Evl.Ex.new rp, ⟨fun a u e => ?_, fun a f u e => ?_⟩, fun _ _ _ _ _ h => h, fun _ h => h, fun a h1 h2 h3 => ?_, ⟨?_, ?_, q⟩⟩
  rotate_left
  · by_cases h : a = p
    · subst h; rw [upd_same] at e; cases e; exact hp
    · rw [upd_ne h] at e; exact w.rh.nf a f u e
  rotate_left 3
  · by_cases h : a = p
    · subst h; rw [upd_same] at e; cases e; exact .inl hp
    · rw [upd_ne h] at e; exact w.rh a u e
  · rw [upd_ne fun z => h1 (by rw [z]; exact hx)]; exact h3
  · rw [upd_ne n1.symm]; exact z1
  · rw [upd_ne n2.symm]; exact z2
/-- a new object is frozen -/
theorem Wx.froze (w : Wx S xs R H R1 H1) {p : Addr} {o : HO} (hp : H1 p = some o) (h0 : H p = none) (rp : R1 p = none) (n1 : p ≠ S.s) (n2 : p ≠ S.c) : Wx S xs R H (upd R1 p o) H1 :=
  (w.trans (w.wd.froze hp rp n1 n2 (xs := [p]) (by simp)) fun q hq => .inr (by rw [List.mem_singleton.mp hq]; exact h0))
theorem Wd.new_ne (w : Wd S R H) {p : Addr} (hp : H p = none) : p ≠ S.s ∧ p ≠ S.c :=
  ⟨fun e => w.there.1 (by rw [← e]; exact hp), fun e => w.there.2 (by rw [← e]; exact hp)⟩
theorem Wd.new_r (w : Wd S R H) {p : Addr} (hp : H p = none) : R p = none := by
  cases e : R p with
  | none => rfl
  | some o => rcases w.rh p o e with q | ⟨f, q⟩ <;> rw [hp] at q <;> cases q
end

/-! ### slots -/
/-- the slots' data; at most one slot holds an object that is ours alone -/
structure Env where
  sl : List (Option D)
  ow : Option (Nat × D)
def Env.put (e : Env) (i : Nat) (d : D) : Env := ⟨e.sl.set i (some d), match e.ow with
  | some (j, o) => if j = i then none else some (j, o)
  | none => none⟩
def Env.own (e : Env) (i : Nat) (d : D) : Env := ⟨e.sl.set i none, some (i, d)⟩
def wipeD (e : Env) : List Nat → Env
  | [] => e
  | i :: r => wipeD ⟨e.sl.set i none, match e.ow with
    | some (j, o) => if j = i then none else some (j, o)
    | none => none⟩ r

/-- ours: an unfrozen list or dict at p whose parts are data -/
inductive OwnO (K : PySem.W.Frag) (S : Sa) (R : Hp) : HO → D → Prop
  | lst {vs : List V} {ds : List D} : RepL K S R vs ds → OwnO K S R (.lst vs) (.lst ds)
  | dct {ws : List (Key × V)} {kvs : List (Str × D)} : RepK K S R ws kvs → OwnO K S R (.dK ws) (.dct kvs)
structure OwnR (K : PySem.W.Frag) (S : Sa) (R H : Hp) (p : Addr) (d : D) : Prop where
  rn : R p = none
  n1 : p ≠ S.s
  n2 : p ≠ S.c
  ob : ∃ o, H p = some o ∧ OwnO K S R o d
structure EnvR (K : PySem.W.Frag) (S : Sa) (R H : Hp) (σ : L2.St) (e : Env) : Prop where
  len : e.sl.length = σ.length
  sl : ∀ (i : Nat) (d : D), e.sl[i]? = some (some d) → ∃ v : V, σ[i]? = some (some v) ∧ Rep K S R v d
  ow : ∀ (i : Nat) (d : D), e.ow = some (i, d) → ∃ p : Addr, σ[i]? = some (some (.ref p)) ∧ OwnR K S R H p d
def ownA (σ : L2.St) (e : Env) : List Addr := match e.ow with
  | some (i, _) => (match σ[i]? with
    | some (some (.ref p)) => [p]
    | _ => [])
  | none => []
section
variable {K : PySem.W.Frag} {S : Sa} {R H R1 H1 : Hp} {σ : L2.St} {e : Env} {xs : List Addr}
theorem OwnO.mono {o : HO} {d : D} (x : Ex R R1) (h : OwnO K S R o d) : OwnO K S R1 o d := by
  cases h with
  | lst h => exact .lst (h.mono x)
  | dct h => exact .dct (h.mono x)
theorem OwnR.step {p : Addr} {d : D} (h : OwnR K S R H p d) (w : Wx S xs R H R1 H1) (hp : p ∉ xs) : OwnR K S R1 H1 p d := by
  obtain ⟨rn, n1, n2, o, ho, r⟩ := h
  exact ⟨w.fr p hp (by rw [ho]; simp) rn, n1, n2, o, w.hh p o hp n1 n2 ho, r.mono w.rr⟩
theorem EnvR.step (h : EnvR K S R H σ e) (w : Wx S [] R H R1 H1) : EnvR K S R1 H1 σ e :=
  ⟨h.len, fun i d q => let ⟨v, a, b⟩ := h.sl i d q; ⟨v, a, b.mono w.rr⟩, fun i d q => let ⟨p, a, b⟩ := h.ow i d q; ⟨p, a, b.step w (fun z => nomatch z)⟩⟩
theorem ownA_mem {p : Addr} (h : p ∈ ownA σ e) : ∃ i d, e.ow = some (i, d) ∧ σ[i]? = some (some (.ref p)) := by
  unfold ownA at h
  split at h
  · rename_i i d q
    split at h
    · rename_i a q2
      rw [List.mem_singleton.mp h]
      exact ⟨i, d, q, q2⟩
    · cases h
  · cases h
theorem ownA_of {i : Nat} {d : D} {p : Addr} (h : e.ow = some (i, d)) (q : σ[i]? = some (some (.ref p))) : ownA σ e = [p] := by
  unfold ownA; rw [h]; simp only [q]
theorem ownA_none (h : e.ow = none) : ownA σ e = [] := by unfold ownA; rw [h]
theorem OwnR.freeze {p : Addr} {d : D} (h : OwnR K S R H p d) : ∃ o, H p = some o ∧ Rep K S (upd R p o) (.ref p) d := by
  obtain ⟨rn, n1, n2, o, ho, r⟩ := h
  refine ⟨o, ho, ?_⟩
  cases r with
  | lst r => exact .lst upd_same (r.mono (Evl.Ex.new rn))
  | dct r => exact .dct upd_same (r.mono (Evl.Ex.new rn))
end

/-! ### the judgements -/
abbrev C := Env → (D → Prop) → Prop
abbrev CA := Env → (List D → Prop) → Prop
abbrev CB := Env → (Bool → Prop) → Prop
abbrev CS := Env → (Env → Prop) → (D → Prop) → Prop
def tD (K : PySem.W.Frag) (c : C) : TE := fun σ H Q => ∃ S R env Qd, Wd S R H ∧ EnvR K S R H σ env ∧ c env Qd ∧
  ∀ d v R' H', Qd d → Wx S [] R H R' H' → Rep K S R' v d → Q v H'
def tL (K : PySem.W.Frag) (c : CA) : TA := fun σ H Q => ∃ S R env Qd, Wd S R H ∧ EnvR K S R H σ env ∧ c env Qd ∧
  ∀ d v R' H', Qd d → Wx S [] R H R' H' → RepL K S R' v d → Q v H'
def tT (K : PySem.W.Frag) (c : CB) : TT := fun σ H Q => ∃ S R env Qd, Wd S R H ∧ EnvR K S R H σ env ∧ c env Qd ∧
  ∀ b R' H', Qd b → Wx S [] R H R' H' → Q b H'
def tF (K : PySem.W.Frag) (c : C) : TE := fun σ H Q => ∃ S R env Qd, Wd S R H ∧ EnvR K S R H σ env ∧ c env Qd ∧
  ∀ d p R' H', Qd d → Wx S [] R H R' H' → H p = none → OwnR K S R' H' p d → Q (.ref p) H'
def tS (K : PySem.W.Frag) (c : CS) : TS := fun Dn σ H => ∃ S R env Nx Rt, Wd S R H ∧ EnvR K S R H σ env ∧ c env Nx Rt ∧
  (∀ env' σ' R' H', Nx env' → Wx S (ownA σ env) R H R' H' → EnvR K S R' H' σ' env' → (∀ p ∈ ownA σ' env', p ∈ ownA σ env ∨ H p = none) → Dn.nx σ' H') ∧
  ∀ d v R' H', Rt d → Wx S (ownA σ env) R H R' H' → Rep K S R' v d → Dn.rt v H'
abbrev DE (X : Cx) (e : Expr) (c : C) : Prop := PE X e (tD X.K c)
abbrev DL (X : Cx) (es : List Expr) (c : CA) : Prop := PA X es (tL X.K c)
abbrev DT (X : Cx) (e : Expr) (c : CB) : Prop := PT X e (tT X.K c)
abbrev DF (X : Cx) (e : Expr) (c : C) : Prop := PE X e (tF X.K c)
abbrev DS (X : Cx) (st : Stmt) (c : CS) : Prop := PS X st (tS X.K c)
abbrev DSs (X : Cx) (st : List Stmt) (c : CS) : Prop := PSs X st (tS X.K c)
theorem PEimp {X : Cx} {e : Expr} {t t' : TE} (h : PE X e t) (i : ∀ σ H Q, t' σ H Q → t σ H Q) : PE X e t' := ⟨fun pins s σ H Q I q => h.run pins s σ H Q I (i σ H Q q)⟩
theorem PTimp {X : Cx} {e : Expr} {t t' : TT} (h : PT X e t) (i : ∀ σ H Q, t' σ H Q → t σ H Q) : PT X e t' := ⟨fun pins s σ H Q I q => h.run pins s σ H Q I (i σ H Q q)⟩
theorem PAimp {X : Cx} {e : List Expr} {t t' : TA} (h : PA X e t) (i : ∀ σ H Q, t' σ H Q → t σ H Q) : PA X e t' := ⟨fun pos pins s σ H Q I q => h.run pos pins s σ H Q I (i σ H Q q)⟩
theorem PSimp {X : Cx} {e : Stmt} {t t' : TS} (h : PS X e t) (i : ∀ Dn σ H, t' Dn σ H → t Dn σ H) : PS X e t' := ⟨fun pins s σ H Q I q => h.run pins s σ H Q I (i Q σ H q)⟩
theorem PSsimp {X : Cx} {e : List Stmt} {t t' : TS} (h : PSs X e t) (i : ∀ Dn σ H, t' Dn σ H → t Dn σ H) : PSs X e t' := ⟨fun pins s σ H Q I q => h.run pins s σ H Q I (i Q σ H q)⟩

/-! ### names, constants -/
section
variable {X : Cx} {pos : Pos}
def cVar (i : Nat) : C := fun env Q => ∃ d, env.sl[i]? = some (some d) ∧ Q d
def cC (d : D) : C := fun _ Q => Q d
theorem de_var {i : Nat} {e : Expr} (h : PE X e (tVar i)) : DE X e (cVar i) := PEimp h fun σ H Q ⟨S, R, env, Qd, wd, er, ⟨d, hd, hq⟩, k⟩ =>
  let ⟨v, hv, r⟩ := er.sl i d hd; ⟨v, hv, k d v R H hq wd.refl r⟩
theorem dv (i : Nat) {x : Str} (hN : X.N[i]? = some x := by rfl) (hv : Vis X.env.scope x := by first | exact Or.inl rfl | exact Or.inr (Or.inl rfl) | exact Or.inr (Or.inr rfl)) (hd : (x == ("__debug__" : Str)) = false := by decide)
    (hcd : (x == ("__classdict__" : Str)) = false := by decide) : DE X (.Name x pos) (cVar i) := de_var (pe_var hN hv hd hcd)
theorem de_c {e : Expr} {v : V} {d : D} (h : PE X e (tC v)) (r : ∀ S R, Rep X.K S R v d) : DE X e (cC d) := PEimp h fun σ H Q ⟨S, R, env, Qd, wd, er, hq, k⟩ =>
  k d v R H hq wd.refl (r S R)
theorem de_int {i j} : DE X (.Constant (.int i) j pos) (cC (.int i)) := de_c pe_int fun _ _ => .int i
theorem de_bl {b j} : DE X (.Constant (.bool b) j pos) (cC (.bl b)) := de_c pe_bl fun _ _ => .bl b
theorem de_non {j} : DE X (.Constant .none j pos) (cC .non) := de_c pe_non fun _ _ => .non
theorem de_str {x j} : DE X (.Constant (.str x) j pos) (cC (.str x)) := de_c pe_str fun _ _ => .str x
/-- a fresh object is frozen -/
theorem de_of {e : Expr} {c : C} (h : DF X e c) : DE X e c := PEimp h fun σ H Q ⟨S, R, env, Qd, wd, er, hq, k⟩ =>
  ⟨S, R, env, Qd, wd, er, hq, fun d p R' H' hd w h0 ow => by
    obtain ⟨o, ho, r⟩ := ow.freeze
    exact k d (.ref p) _ H' hd (w.froze ho h0 ow.rn ow.n1 ow.n2) r⟩

/-! ### two places -/
/-- what an operation on values does to data -/
def OpD (K : PySem.W.Frag) (r : R2) (f : D → D → (D → Prop) → Prop) : Prop := ∀ S R H x y v u Qd Q, Wd S R H → Rep K S R v x → Rep K S R u y → f x y Qd →
  (∀ d w R' H', Qd d → Wx S [] R H R' H' → Rep K S R' w d → Q w H') → r v u H Q
def cOp (f : D → D → (D → Prop) → Prop) (ca cb : C) : C := fun env Q => ca env fun x => cb env fun y => f x y Q
theorem OpD.or {K : PySem.W.Frag} {r r' : R2} {f g : D → D → (D → Prop) → Prop} (a : OpD K r f) (b : OpD K r' g) : OpD K (fun x y H Q => r x y H Q ∨ r' x y H Q) (fun x y Q => f x y Q ∨ g x y Q) :=
  fun S R H x y v u Qd Q wd r1 r2 h k => h.elim (fun h => .inl (a S R H x y v u Qd Q wd r1 r2 h k)) fun h => .inr (b S R H x y v u Qd Q wd r1 r2 h k)
theorem tOp_of {K : PySem.W.Frag} {r : R2} {f : D → D → (D → Prop) → Prop} {ca cb : C} (o : OpD K r f) {σ : L2.St} {H : Hp} {Q : VK} (h : tD K (cOp f ca cb) σ H Q) : tOp r (tD K ca) (tD K cb) σ H Q := by
  obtain ⟨S, R, env, Qd, wd, er, hq, k⟩ := h
  refine ⟨S, R, env, _, wd, er, hq, fun x v R1 H1 hq1 w1 r1 => ⟨S, R1, env, _, w1.wd, er.step w1, hq1, fun y u R2 H2 hq2 w2 r2 => ?_⟩⟩
  exact o S R2 H2 x y v u Qd Q w2.wd (r1.mono w2.rr) r2 hq2 fun d w R' H' hd w3 r3 => k d w R' H' hd ((w1.tr w2).tr w3) r3
theorem de_op {op : Operator} {r : R2} {f : D → D → (D → Prop) → Prop} {a b : Expr} {ca cb : C} (ho : OpR X (binaryOp op) r) (o : OpD X.K r f) (ha : DE X a ca) (hb : DE X b cb) : DE X (.BinOp a op b pos) (cOp f ca cb) :=
  PEimp (pe_op ho ha hb) fun _ _ _ h => tOp_of o h
theorem de_cmp {op : CmpOp} {r : R2} {f : D → D → (D → Prop) → Prop} {a b : Expr} {ca cb : C} (ho : OpR X (compareOp op) r) (o : OpD X.K r f) (ha : DE X a ca) (hb : DE X b cb) (hm : behindInMarks op b = false := by first | exact nomark _ | rfl) :
    DE X (.Compare a [op] [b] pos) (cOp f ca cb) := PEimp (pe_cmpR ho ha hb hm) fun _ _ _ h => tOp_of o h
/-- an expression whose value is a bool, as a test -/
def cTest (c : C) : CB := fun env Q => c env fun d => ∃ b, d = .bl b ∧ Q b
theorem tTest_of {K : PySem.W.Frag} {c : C} {t : TE} {σ : L2.St} {H : Hp} {Q : Bool → Hp → Prop} (i : ∀ Q, tD K c σ H Q → t σ H Q) (h : tT K (cTest c) σ H Q) : tTest t σ H Q := by
  obtain ⟨S, R, env, Qd, wd, er, hq, k⟩ := h
  refine i _ ⟨S, R, env, _, wd, er, hq, fun d v R' H' ⟨b, e, hb⟩ w r => ?_⟩
  subst e
  cases r
  exact ⟨b, rfl, k b R' H' hb w⟩
theorem dt_cmp {op : CmpOp} {r : R2} {f : D → D → (D → Prop) → Prop} {a b : Expr} {ca cb : C} (ho : OpR X (compareOp op) r) (o : OpD X.K r f) (ha : DE X a ca) (hb : DE X b cb) (hm : behindInMarks op b = false := by first | exact nomark _ | rfl) :
    DT X (.Compare a [op] [b] pos) (cTest (cOp f ca cb)) := PTimp (pt_cmpR ho ha hb hm) fun _ _ _ h => tTest_of (fun _ q => tOp_of o q) h
end
end E64
/-! operators, comparisons, tests, displays, places, slices -/
namespace E64
open PySem L2

/-! ### data without dicts as the library's data -/
mutual
def toPy : D → PyData
  | .non => .none
  | .bl b => .bool b
  | .int i => .int i
  | .str x => .str x
  | .tup ds => .tuple (toPyL ds)
  | .lst ds => .list (toPyL ds)
  | .dct _ => .dict []
  | .src => .dict []
  | .prs _ => .dict []
def toPyL : List D → List PyData
  | [] => []
  | d :: ds => toPy d :: toPyL ds
end
section
variable {K : PySem.W.Frag} {S : Sa} {R H : Hp}
mutual
theorem Rep.dp (e : Rx R H) : ∀ {v : V} {d : D}, Rep K S R v d → PyData.canLay0 (toPy d) = true → Dp K H v (toPy d)
  | _, _, .non, _ => by rw [toPy]; exact .non
  | _, _, .bl b, _ => by rw [toPy]; exact .bl b
  | _, _, .int i, _ => by rw [toPy]; exact .int i
  | _, _, .str x, _ => by rw [toPy]; exact .str x
  | _, _, .src, h => by rw [toPy] at h; simp [PyData.canLay0] at h
  | _, _, .tup h r, q => by
    rw [toPy] at q ⊢
    exact .tup (h.sq e) (RepL.dp e r (by simpa [PyData.canLay0] using q))
  | _, _, .lst h r, q => by
    rw [toPy] at q ⊢
    exact .lst (.inl (e _ _ h)) (RepL.dp e r (by simpa [PyData.canLay0] using q))
  | _, _, .dct h r, q => by rw [toPy] at q; simp [PyData.canLay0] at q
  | _, _, .prs h r, q => by rw [toPy] at q; simp [PyData.canLay0] at q
theorem RepL.dp (e : Rx R H) : ∀ {v : List V} {d : List D}, RepL K S R v d → PyData.canLayAll0 (toPyL d) = true → DpAll K H v (toPyL d)
  | _, _, .nil, _ => by rw [toPyL]; exact .nil
  | _, _, .cons h r, q => by
    rw [toPyL] at q ⊢
    simp only [PyData.canLayAll0, Bool.and_eq_true] at q
    exact .cons (Rep.dp e h q.1) (RepL.dp e r q.2)
end
end
def sh (d : D) : Bool := SeqAt.shaped (toPy d)
def eqP (x y : D) : Bool := PyData.eqv (toPy x) (toPy y)

/-! ### operators -/
def fAdd : D → D → (D → Prop) → Prop
  | .int i, .int j, Q => Q (.int (i + j))
  | .tup xs, .tup ys, Q => xs.length + ys.length ≤ 100000 ∧ Q (.tup (xs ++ ys))
  | .lst xs, .lst ys, Q => xs.length + ys.length ≤ 100000 ∧ Q (.lst (xs ++ ys))
  | _, _, _ => False
def fSub : D → D → (D → Prop) → Prop
  | .int i, .int j, Q => Q (.int (i - j))
  | _, _, _ => False
def fMul : D → D → (D → Prop) → Prop
  | .int i, .int j, Q => ((-1000000000 < i ∧ i < 1000000000) ∨ (-1000000000 < j ∧ j < 1000000000)) ∧ Q (.int (i * j))
  | _, _, _ => False
def fPow : D → D → (D → Prop) → Prop
  | .int i, .int j, Q => (0 ≤ j ∧ j ≤ 100 ∧ i.natAbs < 1000) ∧ Q (.int (i ^ j.toNat))
  | _, _, _ => False
def fLt : D → D → (D → Prop) → Prop
  | .int i, .int j, Q => Q (.bl (decide (i < j)))
  | _, _, _ => False
def fLe : D → D → (D → Prop) → Prop
  | .int i, .int j, Q => Q (.bl (decide (i ≤ j)))
  | _, _, _ => False
def fGt : D → D → (D → Prop) → Prop
  | .int i, .int j, Q => Q (.bl (decide (j < i)))
  | _, _, _ => False
def fGe : D → D → (D → Prop) → Prop
  | .int i, .int j, Q => Q (.bl (decide (j ≤ i)))
  | _, _, _ => False
def isN : D → Bool
  | .non => true
  | _ => false
def fIs : D → D → (D → Prop) → Prop
  | x, .non, Q => Q (.bl (isN x))
  | _, _, _ => False
def fIsNot : D → D → (D → Prop) → Prop
  | x, .non, Q => Q (.bl (!isN x))
  | _, _, _ => False
/-- == of scalars -/
def scD : D → D → Option Bool
  | .non, .non => some true
  | .non, .int _ => some false | .int _, .non => some false
  | .non, .str _ => some false | .str _, .non => some false
  | .non, .bl _ => some false | .bl _, .non => some false
  | .int i, .int j => some (decide (i = j))
  | .str i, .str j => some (decide (i = j))
  | .bl i, .bl j => some (decide (i = j))
  | _, _ => none
def fEq (x y : D) (Q : D → Prop) : Prop := match scD x y with
  | some b => Q (.bl b)
  | none => (sh x = true ∧ sh y = true) ∧ Q (.bl (eqP x y))
def fNe (x y : D) (Q : D → Prop) : Prop := match scD x y with
  | some b => Q (.bl (!b))
  | none => (sh x = true ∧ sh y = true) ∧ Q (.bl (!eqP x y))
def inD : D → List D → Option Bool
  | .int i, ds => ds.foldr (fun d r => match d, r with
    | .int j, some b => some (decide (j = i) || b)
    | _, _ => none) (some false)
  | .str i, ds => ds.foldr (fun d r => match d, r with
    | .str j, some b => some (decide (j = i) || b)
    | _, _ => none) (some false)
  | _, _ => none
def fIn (x y : D) (Q : D → Prop) : Prop := match y with
  | .tup ds => ∃ b, inD x ds = some b ∧ Q (.bl b)
  | .lst ds => ∃ b, inD x ds = some b ∧ Q (.bl b)
  | _ => False

section
variable {K : PySem.W.Frag}
theorem int_v {S : Sa} {R : Hp} {v : V} {i : Int} (h : Rep K S R v (.int i)) : v = .int i := by cases h; rfl
theorem str_v {S : Sa} {R : Hp} {v : V} {i : Str} (h : Rep K S R v (.str i)) : v = .str i := by cases h; rfl
theorem non_v {S : Sa} {R : Hp} {v : V} (h : Rep K S R v .non) : v = .non := by cases h; rfl
theorem bl_v {S : Sa} {R : Hp} {v : V} {b : Bool} (h : Rep K S R v (.bl b)) : v = .bl b := by cases h; rfl
theorem tup_v {S : Sa} {R : Hp} {v : V} {ds : List D} (h : Rep K S R v (.tup ds)) : ∃ a vs, v = .ref a ∧ TupR K R a vs ∧ RepL K S R vs ds := by
  cases h with | tup h r => exact ⟨_, _, rfl, h, r⟩
theorem lst_v {S : Sa} {R : Hp} {v : V} {ds : List D} (h : Rep K S R v (.lst ds)) : ∃ a vs, v = .ref a ∧ R a = some (.lst vs) ∧ RepL K S R vs ds := by
  cases h with | lst h r => exact ⟨_, _, rfl, h, r⟩
theorem dct_v {S : Sa} {R : Hp} {v : V} {ds : List (Str × D)} (h : Rep K S R v (.dct ds)) : ∃ a ws, v = .ref a ∧ R a = some (.dK ws) ∧ RepK K S R ws ds := by
  cases h with | dct h r => exact ⟨_, _, rfl, h, r⟩
/-- the layer's answer is an int or a bool: nothing is laid -/
theorem done_v {S : Sa} {R H : Hp} {Qd : D → Prop} {Q : VK} {d : D} {w : V} (wd : Wd S R H) (k : ∀ d w R' H', Qd d → Wx S [] R H R' H' → Rep K S R' w d → Q w H') (q : Qd d) (r : Rep K S R w d) : Q w H := k d w R H q wd.refl r
/-- a new tuple is laid and frozen -/
theorem done_tup {S : Sa} {R H : Hp} {Qd : D → Prop} {Q : VK} {ds : List D} {vs : List V} {p : Addr} {o : Obj} (wd : Wd S R H) (k : ∀ d w R' H', Qd d → Wx S [] R H R' H' → Rep K S R' w d → Q w H') (q : Qd (.tup ds)) (r : RepL K S R vs ds) (ho : o.dict = none) (hp : H p = none) : Q (.ref p) (upd H p (.frz o (.tup vs))) := by
  obtain ⟨n1, n2⟩ := wd.new_ne hp
  have rn := wd.new_r hp
  have w1 : Wx S [] R H R (upd H p (.frz o (.tup vs))) := wd.laid hp
  exact k _ _ _ _ q (w1.froze upd_same hp rn n1 n2) (.tup ⟨o, ho, upd_same⟩ (r.mono (Evl.Ex.new rn)))
theorem done_lst {S : Sa} {R H : Hp} {Qd : D → Prop} {Q : VK} {ds : List D} {vs : List V} {p : Addr} (wd : Wd S R H) (k : ∀ d w R' H', Qd d → Wx S [] R H R' H' → Rep K S R' w d → Q w H') (q : Qd (.lst ds)) (r : RepL K S R vs ds) (hp : H p = none) : Q (.ref p) (upd H p (.lst vs)) := by
  obtain ⟨n1, n2⟩ := wd.new_ne hp
  have rn := wd.new_r hp
  have w1 : Wx S [] R H R (upd H p (.lst vs)) := wd.laid hp
  exact k _ _ _ _ q (w1.froze upd_same hp rn n1 n2) (.lst upd_same (r.mono (Evl.Ex.new rn)))
theorem line_of {n : Nat} (h : n ≤ 100000) : n ≤ sizeLine := Nat.le_trans h (by decide)

theorem o_sub : OpD K (rI0 fun i j => .int (i - j)) fSub := by
  intro S R H x y v u Qd Q wd r1 r2 h k
  unfold fSub at h
  split at h
  · obtain rfl := int_v r1; obtain rfl := int_v r2
    exact ⟨_, _, rfl, rfl, done_v wd k h (.int _)⟩
  · exact h.elim
theorem o_mul : OpD K (rI CMul fun i j => .int (i * j)) fMul := by
  intro S R H x y v u Qd Q wd r1 r2 h k
  unfold fMul at h
  split at h
  · obtain rfl := int_v r1; obtain rfl := int_v r2
    refine ⟨_, _, rfl, rfl, ?_, done_v wd k h.2 (.int _)⟩
    rcases h.1 with z | z
    · left; omega
    · right; omega
  · exact h.elim
theorem o_pow : OpD K (rI CPow fun i j => .int (i ^ j.toNat)) fPow := by
  intro S R H x y v u Qd Q wd r1 r2 h k
  unfold fPow at h
  split at h
  · obtain rfl := int_v r1; obtain rfl := int_v r2
    exact ⟨_, _, rfl, rfl, ⟨h.1.1, by omega, by omega⟩, done_v wd k h.2 (.int _)⟩
  · exact h.elim
theorem o_lt : OpD K (rI0 fun i j => .bl (decide (i < j))) fLt := by
  intro S R H x y v u Qd Q wd r1 r2 h k
  unfold fLt at h
  split at h
  · obtain rfl := int_v r1; obtain rfl := int_v r2
    exact ⟨_, _, rfl, rfl, done_v wd k h (.bl _)⟩
  · exact h.elim
theorem o_le : OpD K (rI0 fun i j => .bl (decide (i ≤ j))) fLe := by
  intro S R H x y v u Qd Q wd r1 r2 h k
  unfold fLe at h
  split at h
  · obtain rfl := int_v r1; obtain rfl := int_v r2
    exact ⟨_, _, rfl, rfl, done_v wd k h (.bl _)⟩
  · exact h.elim
theorem o_gt : OpD K (rI0 fun i j => .bl (decide (j < i))) fGt := by
  intro S R H x y v u Qd Q wd r1 r2 h k
  unfold fGt at h
  split at h
  · obtain rfl := int_v r1; obtain rfl := int_v r2
    exact ⟨_, _, rfl, rfl, done_v wd k h (.bl _)⟩
  · exact h.elim
theorem o_ge : OpD K (rI0 fun i j => .bl (decide (j ≤ i))) fGe := by
  intro S R H x y v u Qd Q wd r1 r2 h k
  unfold fGe at h
  split at h
  · obtain rfl := int_v r1; obtain rfl := int_v r2
    exact ⟨_, _, rfl, rfl, done_v wd k h (.bl _)⟩
  · exact h.elim
theorem isN_v {S : Sa} {R : Hp} {v : V} {d : D} (h : Rep K S R v d) : decide (v = V.non) = isN d := by
  cases h <;> first | rfl | (unfold isN; simp)
theorem o_is : OpD K (fun x y H Q => y = .non ∧ Q (.bl (decide (x = .non))) H) fIs := by
  intro S R H x y v u Qd Q wd r1 r2 h k
  unfold fIs at h
  split at h
  · obtain rfl := non_v r2
    exact ⟨rfl, done_v wd k h (by rw [isN_v r1]; exact .bl _)⟩
  · exact h.elim
theorem o_isnot : OpD K (fun x y H Q => y = .non ∧ Q (.bl (!decide (x = .non))) H) fIsNot := by
  intro S R H x y v u Qd Q wd r1 r2 h k
  unfold fIsNot at h
  split at h
  · obtain rfl := non_v r2
    exact ⟨rfl, done_v wd k h (by rw [isN_v r1]; exact .bl _)⟩
  · exact h.elim
theorem scD_v {S : Sa} {R : Hp} {v u : V} {x y : D} {b : Bool} (h : Rep K S R v x) (h2 : Rep K S R u y) (e : scD x y = some b) : scal v u = true ∧ decide (v = u) = b := by
  unfold scD at e
  split at e <;> first
    | (cases h; cases h2; injection e with e; subst e; refine ⟨rfl, ?_⟩; simp)
    | (cases e; done)
theorem sh_lay {d : D} (h : sh d = true) : PyData.canLay0 (toPy d) = true := SeqAt.canLay_of_shaped h
theorem o_eq : OpD K (fun x y H Q => rEq x y H Q ∨ rEqD K x y H Q) fEq := by
  intro S R H x y v u Qd Q wd r1 r2 h k
  unfold fEq at h
  split at h
  · rename_i b e
    obtain ⟨z1, z2⟩ := scD_v r1 r2 e
    exact .inl ⟨z1, done_v wd k h (by rw [z2]; exact .bl _)⟩
  · exact .inr ⟨_, _, r1.dp wd.rh (sh_lay h.1.1), r2.dp wd.rh (sh_lay h.1.2), h.1.1, h.1.2, done_v wd k h.2 (.bl _)⟩
theorem o_ne : OpD K (fun x y H Q => rNe x y H Q ∨ rNeD K x y H Q) fNe := by
  intro S R H x y v u Qd Q wd r1 r2 h k
  unfold fNe at h
  split at h
  · rename_i b e
    obtain ⟨z1, z2⟩ := scD_v r1 r2 e
    exact .inl ⟨z1, done_v wd k h (by rw [z2]; exact .bl _)⟩
  · exact .inr ⟨_, _, r1.dp wd.rh (sh_lay h.1.1), r2.dp wd.rh (sh_lay h.1.2), h.1.1, h.1.2, done_v wd k h.2 (.bl _)⟩
theorem inD_v {S : Sa} {R : Hp} {x : D} {v : V} (h : Rep K S R v x) : ∀ {ds : List D} {vs : List V} {b : Bool}, RepL K S R vs ds → inD x ds = some b → flatV v = true ∧ vs.all flatV = true ∧ inV v vs = b := by
  intro ds
  induction ds with
  | nil =>
    intro vs b r e
    cases r
    cases h <;> simp only [inD, List.foldr_nil] at e <;> first
      | (injection e with e; subst e; exact ⟨rfl, rfl, rfl⟩)
      | (cases e; done)
  | cons d ds ih =>
    intro vs b r e
    cases r with
    | cons r1 r2 =>
      cases h with
      | int i =>
        simp only [inD, List.foldr_cons] at e
        split at e
        · rename_i j b' q
          injection e with e
          obtain ⟨a1, a2, a3⟩ := ih r2 (by simpa only [inD] using q)
          obtain rfl := int_v r1
          refine ⟨rfl, by rw [List.all_cons, a2]; rfl, ?_⟩
          unfold inV at a3 ⊢
          rw [List.any_cons, a3, ← e]
          show ((j == i) || _) = _
          rw [Bool.beq_eq_decide_eq]
        · cases e
      | str i =>
        simp only [inD, List.foldr_cons] at e
        split at e
        · rename_i j b' q
          injection e with e
          obtain ⟨a1, a2, a3⟩ := ih r2 (by simpa only [inD] using q)
          obtain rfl := str_v r1
          refine ⟨rfl, by rw [List.all_cons, a2]; rfl, ?_⟩
          unfold inV at a3 ⊢
          rw [List.any_cons, a3, ← e]
          show ((j == i) || _) = _
          rw [Bool.beq_eq_decide_eq]
        · cases e
      | _ => simp only [inD] at e; cases e
theorem o_in : OpD K (rIn K false) fIn := by
  intro S R H x y v u Qd Q wd r1 r2 h k
  unfold fIn at h
  split at h
  · obtain ⟨a, vs, rfl, h1, h2⟩ := tup_v r2
    obtain ⟨b, e, q⟩ := h
    obtain ⟨a1, a2, a3⟩ := inD_v r1 h2 e
    refine ⟨a, vs, rfl, .inr (h1.sq wd.rh), a1, a2, ?_⟩
    show Q (.bl (inV v vs)) H
    rw [a3]
    exact done_v wd k q (.bl _)
  · obtain ⟨a, vs, rfl, h1, h2⟩ := lst_v r2
    obtain ⟨b, e, q⟩ := h
    obtain ⟨a1, a2, a3⟩ := inD_v r1 h2 e
    refine ⟨a, vs, rfl, .inl (.inl (wd.rh _ _ h1)), a1, a2, ?_⟩
    show Q (.bl (inV v vs)) H
    rw [a3]
    exact done_v wd k q (.bl _)
  · exact h.elim
end

/-! ### tests -/
section
variable {X : Cx} {pos : Pos} {a b : Expr} {ca cb : C} {ba bb : CB} {rest : List Expr}
abbrev DW (X : Cx) (e : Expr) (c : CB) : Prop := PW X e (tT X.K c)
theorem PWimp {X : Cx} {e : Expr} {t t' : TT} (h : PW X e t) (i : ∀ σ H Q, t' σ H Q → t σ H Q) : PW X e t' := ⟨fun wh pins s σ H Q I q => h.run wh pins s σ H Q I (i σ H Q q)⟩
def cAnd (ca cb : CB) : CB := fun env Q => ca env fun x => if x = true then cb env Q else Q false
def cOr (ca cb : CB) : CB := fun env Q => ca env fun x => if x = true then Q true else cb env Q
def cNot (ca : CB) : CB := fun env Q => ca env fun x => Q (!x)
theorem dw_and1 (ha : DT X a ba) : DW X (.BoolOp .And [a] pos) ba := pw_and1 ha
theorem dw_or1 (ha : DT X a ba) : DW X (.BoolOp .Or [a] pos) ba := pw_or1 ha
theorem dw_and (ha : DT X a ba) (hb : DW X (.BoolOp .And (b :: rest) pos) bb) : DW X (.BoolOp .And (a :: b :: rest) pos) (cAnd ba bb) :=
  PWimp (pw_and ha hb) fun σ H Q ⟨S, R, env, Qd, wd, er, hq, k⟩ => ⟨S, R, env, _, wd, er, hq, fun x R1 H1 q w => by
    cases x with
    | true => exact iteT ⟨S, R1, env, Qd, w.wd, er.step w, by simpa using q, fun y R2 H2 q2 w2 => k y R2 H2 q2 (w.tr w2)⟩
    | false => exact iteF (k false R1 H1 (by simpa using q) w)⟩
theorem dw_or (ha : DT X a ba) (hb : DW X (.BoolOp .Or (b :: rest) pos) bb) : DW X (.BoolOp .Or (a :: b :: rest) pos) (cOr ba bb) :=
  PWimp (pw_or ha hb) fun σ H Q ⟨S, R, env, Qd, wd, er, hq, k⟩ => ⟨S, R, env, _, wd, er, hq, fun x R1 H1 q w => by
    cases x with
    | true => exact iteT (k true R1 H1 (by simpa using q) w)
    | false => exact iteF ⟨S, R1, env, Qd, w.wd, er.step w, by simpa using q, fun y R2 H2 q2 w2 => k y R2 H2 q2 (w.tr w2)⟩⟩
theorem dt_w {e : Expr} (h : DW X e ba) : DT X e ba := h.pt
theorem dt_not (ha : DT X a ba) : DT X (.UnaryOp .Not a pos) (cNot ba) :=
  PTimp (pt_not ha) fun σ H Q ⟨S, R, env, Qd, wd, er, hq, k⟩ => ⟨S, R, env, _, wd, er, hq, fun x R1 H1 q w => k (!x) R1 H1 q w⟩
/-- a bool value as a test -/
theorem dt_val {e : Expr} (h : DE X e ca) (he : ∀ whole, isTrue e X.env whole = (do let v ← whole; standAt e.pos; holding [v] (truthy v)) := by intro _; rfl) : DT X e (cTest ca) :=
  PTimp (pt_val h he) fun σ H Q q => tTest_of (t := tD X.K ca) (fun _ z => z) q
/-- truth of a list or tuple -/
def cTru (ca : C) : CB := fun env Q => ca env fun d => match d with
  | .lst ds => Q (!ds.isEmpty)
  | .tup ds => Q (!ds.isEmpty)
  | .bl b => Q b
  | .non => Q false
  | _ => False
theorem empty_v {K : PySem.W.Frag} {S : Sa} {R : Hp} {vs : List V} {ds : List D} (h : RepL K S R vs ds) : vs.isEmpty = ds.isEmpty := by cases h <;> rfl
theorem dt_tru {e : Expr} (h : DE X e ca) (he : ∀ whole, isTrue e X.env whole = (do let v ← whole; standAt e.pos; holding [v] (truthy v)) := by intro _; rfl) : DT X e (cTru ca) :=
  PTimp (pt_truth h he) fun σ H Q ⟨S, R, env, Qd, wd, er, hq, k⟩ => ⟨S, R, env, _, wd, er, hq, fun d v R1 H1 q w r => by
    cases r with
    | lst h1 h2 => exact ⟨_, .inl ⟨_, .inl (w.rh _ _ h1), rfl⟩, by rw [empty_v h2]; exact k _ R1 H1 q w⟩
    | tup h1 h2 => exact ⟨_, .inr (.inl ⟨_, h1.sq w.rh, rfl⟩), by rw [empty_v h2]; exact k _ R1 H1 q w⟩
    | bl b => exact ⟨b, rfl, k _ R1 H1 q w⟩
    | non => exact ⟨false, rfl, k _ R1 H1 q w⟩
    | _ => exact q.elim⟩
/-- and, or as values (bools) -/
def cAndV (ca cb : C) : C := fun env Q => ca env fun d => ∃ x, d = .bl x ∧ if x = true then cb env Q else Q (.bl false)
def cOrV (ca cb : C) : C := fun env Q => ca env fun d => ∃ x, d = .bl x ∧ if x = true then Q (.bl true) else cb env Q
theorem de_one {op} (h : DE X a ca) : DE X (.BoolOp op [a] pos) ca := pe_one h
theorem de_and (ha : DE X a ca) (hb : DE X (.BoolOp .And (b :: rest) pos) cb) : DE X (.BoolOp .And (a :: b :: rest) pos) (cAndV ca cb) :=
  PEimp (pe_and ha hb) fun σ H Q ⟨S, R, env, Qd, wd, er, hq, k⟩ => ⟨S, R, env, _, wd, er, hq, fun d v R1 H1 ⟨x, e, q⟩ w r => by
    subst e
    obtain rfl := bl_v r
    refine ⟨x, rfl, ?_⟩
    cases x with
    | true => exact iteT ⟨S, R1, env, Qd, w.wd, er.step w, by simpa using q, fun d v R2 H2 q2 w2 r2 => k d v R2 H2 q2 (w.tr w2) r2⟩
    | false => exact iteF (k _ _ R1 H1 (by simpa using q) w (.bl _))⟩
theorem de_or (ha : DE X a ca) (hb : DE X (.BoolOp .Or (b :: rest) pos) cb) : DE X (.BoolOp .Or (a :: b :: rest) pos) (cOrV ca cb) :=
  PEimp (pe_or ha hb) fun σ H Q ⟨S, R, env, Qd, wd, er, hq, k⟩ => ⟨S, R, env, _, wd, er, hq, fun d v R1 H1 ⟨x, e, q⟩ w r => by
    subst e
    obtain rfl := bl_v r
    refine ⟨x, rfl, ?_⟩
    cases x with
    | true => exact iteT (k _ _ R1 H1 (by simpa using q) w (.bl _))
    | false => exact iteF ⟨S, R1, env, Qd, w.wd, er.step w, by simpa using q, fun d v R2 H2 q2 w2 r2 => k d v R2 H2 q2 (w.tr w2) r2⟩⟩
def cIf (c : CB) (ca cb : C) : C := fun env Q => c env fun x => if x = true then ca env Q else cb env Q
theorem de_if {c : Expr} (hc : DT X c ba) (ha : DE X a ca) (hb : DE X b cb) : DE X (.IfExp c a b pos) (cIf ba ca cb) :=
  PEimp (pe_ifExp hc ha hb) fun σ H Q ⟨S, R, env, Qd, wd, er, hq, k⟩ => ⟨S, R, env, _, wd, er, hq, fun x R1 H1 q w => by
    cases x with
    | true => exact iteT ⟨S, R1, env, Qd, w.wd, er.step w, by simpa using q, fun d v R2 H2 q2 w2 r2 => k d v R2 H2 q2 (w.tr w2) r2⟩
    | false => exact iteF ⟨S, R1, env, Qd, w.wd, er.step w, by simpa using q, fun d v R2 H2 q2 w2 r2 => k d v R2 H2 q2 (w.tr w2) r2⟩⟩
end

/-! ### arguments, displays -/
section
variable {X : Cx} {pos : Pos} {e : Expr} {es : List Expr} {ce : C} {cs : CA}
def aNil : CA := fun _ Q => Q []
def aCons (c : C) (r : CA) : CA := fun env Q => c env fun d => r env fun ds => Q (d :: ds)
def aStar (c : C) (r : CA) : CA := fun env Q => c env fun d => match d with
  | .tup xs => r env fun ds => Q (xs ++ ds)
  | .lst xs => r env fun ds => Q (xs ++ ds)
  | _ => False
theorem dl_nil : DL X [] aNil := PAimp pa_nil fun σ H Q ⟨S, R, env, Qd, wd, er, hq, k⟩ => k [] [] R H hq wd.refl .nil
theorem dl_cons (ha : DE X e ce) (hr : DL X es cs) (hs : starEach (e :: es) X.env = (false, eval e X.env) :: starEach es X.env := by rfl) : DL X (e :: es) (aCons ce cs) :=
  PAimp (pa_cons ha hr hs) fun σ H Q ⟨S, R, env, Qd, wd, er, hq, k⟩ => ⟨S, R, env, _, wd, er, hq, fun d v R1 H1 q w r =>
    ⟨S, R1, env, _, w.wd, er.step w, q, fun ds vs R2 H2 q2 w2 r2 => k _ _ R2 H2 q2 (w.tr w2) (.cons (r.mono w2.rr) r2)⟩⟩
theorem dl_star {p : Pos} (ha : DE X e ce) (hr : DL X es cs) (hs : starEach (.Starred e p :: es) X.env = (true, eval e X.env) :: starEach es X.env := by rfl) : DL X (.Starred e p :: es) (aStar ce cs) :=
  PAimp (StX.pa_star ha hr hs) fun σ H Q ⟨S, R, env, Qd, wd, er, hq, k⟩ => ⟨S, R, env, _, wd, er, hq, fun d v R1 H1 q w r => by
    cases r with
    | tup h1 h2 => exact ⟨_, _, rfl, .inl (h1.sq w.rh), S, R1, env, _, w.wd, er.step w, q, fun ds vs R2 H2 q2 w2 r2 => k _ _ R2 H2 q2 (w.tr w2) ((h2.mono w2.rr).append r2)⟩
    | lst h1 h2 => exact ⟨_, _, rfl, .inr (.inl (w.rh _ _ h1)), S, R1, env, _, w.wd, er.step w, q, fun ds vs R2 H2 q2 w2 r2 => k _ _ R2 H2 q2 (w.tr w2) ((h2.mono w2.rr).append r2)⟩
    | _ => exact q.elim⟩
def cTup (cs : CA) : C := fun env Q => cs env fun ds => ds.length ≤ 100000 ∧ Q (.tup ds)
def cLst (cs : CA) : C := fun env Q => cs env fun ds => ds.length ≤ 100000 ∧ Q (.lst ds)
theorem de_tup {x1} (h : DL X es cs) : DE X (.Tuple es x1 pos) (cTup cs) :=
  PEimp (pe_tupP h) fun σ H Q ⟨S, R, env, Qd, wd, er, hq, k⟩ => ⟨S, R, env, _, wd, er, hq, fun ds vs R1 H1 q w r =>
    ⟨line_of (by rw [r.len]; exact q.1), fun p o ho hp => done_tup w.wd (fun d v R' H' hd w2 r2 => k d v R' H' hd (w.tr w2) r2) q.2 r ho hp⟩⟩
theorem df_lst (h : DL X es cs) : DF X (.List es pos) (cLst cs) :=
  PEimp (pe_lst h) fun σ H Q ⟨S, R, env, Qd, wd, er, hq, k⟩ => ⟨S, R, env, _, wd, er, hq, fun ds vs R1 H1 q w r =>
    ⟨line_of (by rw [r.len]; exact q.1), fun p hp => by
      have hp0 : H p = none := by
        cases e : H p with
        | none => rfl
        | some o => exact absurd hp (w.hn p (by rw [e]; simp))
      obtain ⟨n1, n2⟩ := w.wd.new_ne hp
      exact k _ p R1 _ q.2 (w.tr (w.wd.laid hp)) hp0 ⟨w.wd.new_r hp, n1, n2, _, upd_same, .lst r⟩⟩⟩
end
end E64
/-! places, slices, built-in calls, dicts -/
namespace E64
open PySem PySem.Spec PyProof.Rows L2

/-! ### + -/
def rCatT0 (K : PySem.W.Frag) : R2 := fun x y H Q => ∃ a b ys, x = .ref a ∧ y = .ref b ∧ SqT K H a [] ∧ SqT K H b ys ∧ Q (.ref b) H
theorem op_catT0 {X : Cx} : OpR X (binaryOp .Add) (rCatT0 X.K) := by
  intro pins s σ H x y v u Q I rx ry h
  obtain ⟨a, b, ys, rfl, rfl, ha, hb, q⟩ := h
  cases rx
  cases ry
  obtain ⟨its, r1, p1, _⟩ := I.tuple ha
  obtain ⟨its2, r2, p2, _⟩ := I.tuple hb
  cases r1
  obtain ⟨⟨cls, dd, data, sl⟩, ho, hc, n, hd⟩ := id p1
  obtain ⟨⟨cls2, dd2, data2, sl2⟩, ho2, hc2, n2, hd2⟩ := id p2
  simp only at hc hd hc2 hd2
  subst hc hd hc2 hd2
  exact concat_meets ⟨_, ho, rfl⟩ ⟨_, ho2, rfl⟩ noFill_tuple_add seq_tuple_add PySem.F.slot_tuple_add PySem.F.entry_tuple_add (PySem.F.args_tuple_add_2 _ _)
    (tuple_addW0 a b #[] its2.toArray n n2 dd dd2 sl sl2 rfl) ⟨ho, ho2, ⟨.ref b, H, I, rfl, q⟩⟩
def rCatL (K : PySem.W.Frag) : R2 := fun x y H Q => ∃ l b xs zs, x = .ref l ∧ y = .ref b ∧ SqL K H l xs ∧ SqL K H b zs ∧ xs.length + zs.length ≤ sizeLine ∧ ∀ p, H p = none → Q (.ref p) (upd H p (.lst (xs ++ zs)))
theorem op_catL {X : Cx} : OpR X (binaryOp .Add) (rCatL X.K) := by
  intro pins s σ H x y v u Q I rx ry h
  obtain ⟨l, b, xs, zs, rfl, rfl, hH, hB, hz, q⟩ := h
  cases rx
  cases ry
  obtain ⟨its, r, ⟨o, n, e, hc, hd, hs⟩, z⟩ := I.list hH
  obtain ⟨its2, r2, ⟨o2, n2, e2, hc2, hd2, hs2⟩, z2⟩ := I.list hB
  have hl := r.length
  have hl2 := r2.length
  obtain ⟨cls, dd, dat, sl⟩ := o
  obtain ⟨cls2, dd2, dat2, sl2⟩ := o2
  simp only at hc hd hs hc2 hd2 hs2
  subst hc hd hs hc2 hd2 hs2
  have ea : its.toArray ++ its2.toArray = (its ++ its2).toArray := by simp
  refine concat_meets ⟨_, e, rfl⟩ ⟨_, e2, rfl⟩ noFill_list_add seq_list_add PySem.F.slot_list_add PySem.F.entry_list_add (PySem.F.args_list_add_2 _ _)
    (list_addW l b its.toArray its2.toArray n n2 none none sl sl2 (by rw [List.size_toArray, List.size_toArray]; omega)) ⟨e, e2, ?_⟩
  rw [ea]
  exact ⟨.ref _, _, I.lnew (t' := s.toks) (r.append r2) (by rw [List.length_append]; omega), rfl, q _ I.fresh⟩
section
variable {K : PySem.W.Frag}
theorem o_add : OpD K (fun x y H Q => rI0 (fun i j => .int (i + j)) x y H Q ∨ (fun x y H Q => rCatTP K x y H Q ∨ (fun x y H Q => rCatT0 K x y H Q ∨ rCatL K x y H Q) x y H Q) x y H Q) fAdd := by
  intro S R H x y v u Qd Q wd r1 r2 h k
  unfold fAdd at h
  split at h
  · obtain rfl := int_v r1; obtain rfl := int_v r2
    exact .inl ⟨_, _, rfl, rfl, done_v wd k h (.int _)⟩
  · rename_i xs ys
    obtain ⟨a, vs, rfl, h1, h2⟩ := tup_v r1
    obtain ⟨b, ws, rfl, h3, h4⟩ := tup_v r2
    cases xs with
    | nil =>
      cases h2
      exact .inr (.inr (.inl ⟨_, _, _, rfl, rfl, h1.sq wd.rh, h3.sq wd.rh, done_v wd k h.2 r2⟩))
    | cons x0 xs =>
      have hl := h2.len
      have hl2 := h4.len
      refine .inr (.inl ⟨_, _, vs, ws, rfl, rfl, h1.sq wd.rh, h3.sq wd.rh, (by intro e; rw [e] at hl; simp at hl), line_of (by rw [hl, hl2]; exact h.1), fun e => ?_, fun e p o ho hp => ?_⟩)
      · subst e
        cases h4
        refine done_v wd k h.2 ?_
        rw [List.append_nil]
        exact r1
      · exact done_tup wd k h.2 (h2.append h4) ho hp
  · obtain ⟨a, vs, rfl, h1, h2⟩ := lst_v r1
    obtain ⟨b, ws, rfl, h3, h4⟩ := lst_v r2
    have hl := h2.len
    have hl2 := h4.len
    exact .inr (.inr (.inr ⟨_, _, vs, ws, rfl, rfl, .inl (wd.rh _ _ h1), .inl (wd.rh _ _ h3), line_of (by rw [hl, hl2]; exact h.1), fun p hp => done_lst wd k h.2 (h2.append h4) hp⟩))
  · exact h.elim
end
section
variable {X : Cx} {pos : Pos} {a b : Expr} {ca cb : C}
theorem de_add (ha : DE X a ca) (hb : DE X b cb) : DE X (.BinOp a .Add b pos) (cOp fAdd ca cb) := de_op (op_add.or (op_catTP.or (op_catT0.or op_catL))) o_add ha hb
theorem de_sub (ha : DE X a ca) (hb : DE X b cb) : DE X (.BinOp a .Sub b pos) (cOp fSub ca cb) := de_op op_sub o_sub ha hb
theorem de_mul (ha : DE X a ca) (hb : DE X b cb) : DE X (.BinOp a .Mult b pos) (cOp fMul ca cb) := de_op op_mul o_mul ha hb
theorem de_pow (ha : DE X a ca) (hb : DE X b cb) : DE X (.BinOp a .Pow b pos) (cOp fPow ca cb) := de_op op_pow o_pow ha hb
theorem dt_lt (ha : DE X a ca) (hb : DE X b cb) : DT X (.Compare a [.Lt] [b] pos) (cTest (cOp fLt ca cb)) := dt_cmp op_lt o_lt ha hb (nomark _)
theorem dt_le (ha : DE X a ca) (hb : DE X b cb) : DT X (.Compare a [.LtE] [b] pos) (cTest (cOp fLe ca cb)) := dt_cmp op_le o_le ha hb (nomark _)
theorem dt_gt (ha : DE X a ca) (hb : DE X b cb) : DT X (.Compare a [.Gt] [b] pos) (cTest (cOp fGt ca cb)) := dt_cmp op_gt o_gt ha hb (nomark _)
theorem dt_ge (ha : DE X a ca) (hb : DE X b cb) : DT X (.Compare a [.GtE] [b] pos) (cTest (cOp fGe ca cb)) := dt_cmp op_ge o_ge ha hb (nomark _)
theorem dt_is (ha : DE X a ca) (hb : DE X b cb) : DT X (.Compare a [.Is] [b] pos) (cTest (cOp fIs ca cb)) := dt_cmp op_isN o_is ha hb (nomark _)
theorem dt_isnot (ha : DE X a ca) (hb : DE X b cb) : DT X (.Compare a [.IsNot] [b] pos) (cTest (cOp fIsNot ca cb)) := dt_cmp op_notN o_isnot ha hb (nomark _)
theorem de_is (ha : DE X a ca) (hb : DE X b cb) : DE X (.Compare a [.Is] [b] pos) (cOp fIs ca cb) := de_cmp op_isN o_is ha hb (nomark _)
theorem de_isnot (ha : DE X a ca) (hb : DE X b cb) : DE X (.Compare a [.IsNot] [b] pos) (cOp fIsNot ca cb) := de_cmp op_notN o_isnot ha hb (nomark _)
theorem dt_eq (hu : X.A.units + 64 < cLine) (ha : DE X a ca) (hb : DE X b cb) : DT X (.Compare a [.Eq] [b] pos) (cTest (cOp fEq ca cb)) := dt_cmp (op_eq.or (op_eqD hu)) o_eq ha hb (nomark _)
theorem dt_ne (hu : X.A.units + 64 < cLine) (ha : DE X a ca) (hb : DE X b cb) : DT X (.Compare a [.NotEq] [b] pos) (cTest (cOp fNe ca cb)) := dt_cmp (op_ne.or (op_neD hu)) o_ne ha hb (nomark _)
theorem de_eq (hu : X.A.units + 64 < cLine) (ha : DE X a ca) (hb : DE X b cb) : DE X (.Compare a [.Eq] [b] pos) (cOp fEq ca cb) := de_cmp (op_eq.or (op_eqD hu)) o_eq ha hb (nomark _)
theorem de_ne (hu : X.A.units + 64 < cLine) (ha : DE X a ca) (hb : DE X b cb) : DE X (.Compare a [.NotEq] [b] pos) (cOp fNe ca cb) := de_cmp (op_ne.or (op_neD hu)) o_ne ha hb (nomark _)
theorem dt_in (ha : DE X a ca) (hb : DE X b cb) (hm : behindInMarks .In b = false := by rfl) : DT X (.Compare a [.In] [b] pos) (cTest (cOp fIn ca cb)) := dt_cmp op_in_seq o_in ha hb hm
end

/-! ### one place -/
def UnD (K : PySem.W.Frag) (r : V → Hp → VK → Prop) (f : D → (D → Prop) → Prop) : Prop := ∀ S R H x v Qd Q, Wd S R H → Rep K S R v x → f x Qd →
  (∀ d w R' H', Qd d → Wx S [] R H R' H' → Rep K S R' w d → Q w H') → r v H Q
def cUn (f : D → (D → Prop) → Prop) (ca : C) : C := fun env Q => ca env fun x => f x Q
def fNeg : D → (D → Prop) → Prop
  | .int i, Q => Q (.int (-i))
  | _, _ => False
theorem de_neg {X : Cx} {pos : Pos} {a : Expr} {ca : C} (ha : DE X a ca) : DE X (.UnaryOp .USub a pos) (cUn fNeg ca) :=
  PEimp (pe_un un_neg ha) fun σ H Q ⟨S, R, env, Qd, wd, er, hq, k⟩ => ⟨S, R, env, _, wd, er, hq, fun d v R1 H1 q w r => by
    cases r with
    | int i => exact ⟨i, rfl, k _ _ R1 H1 q w (.int _)⟩
    | _ => exact q.elim⟩

/-! ### xs[i] -/
theorem RepL.atI {K : PySem.W.Frag} {S : Sa} {R : Hp} {vs : List V} {ds : List D} {i : Int} {d : D} (h : RepL K S R vs ds) (e : atI ds i = some d) : ∃ v, atI vs i = some v ∧ Rep K S R v d := by
  unfold L2.atI at e ⊢
  rw [h.len]
  cases q : ixN ds.length i with
  | none => rw [q] at e; cases e
  | some j =>
    rw [q] at e
    exact h.get e
def fIx : D → D → (D → Prop) → Prop
  | .tup ds, .int i, Q => ∃ d, atI ds i = some d ∧ Q d
  | .lst ds, .int i, Q => ∃ d, atI ds i = some d ∧ Q d
  | _, _, _ => False
theorem o_ix {K : PySem.W.Frag} : OpD K (rIx K) fIx := by
  intro S R H x y v u Qd Q wd r1 r2 h k
  unfold fIx at h
  split at h
  · obtain ⟨a, vs, rfl, h1, h2⟩ := tup_v r1
    obtain rfl := int_v r2
    obtain ⟨d, e, q⟩ := h
    obtain ⟨w, e2, r⟩ := h2.atI e
    exact .inr (.inl ⟨_, _, _, w, rfl, rfl, h1.sq wd.rh, e2, done_v wd k q r⟩)
  · obtain ⟨a, vs, rfl, h1, h2⟩ := lst_v r1
    obtain rfl := int_v r2
    obtain ⟨d, e, q⟩ := h
    obtain ⟨w, e2, r⟩ := h2.atI e
    exact .inl ⟨_, _, _, w, rfl, rfl, .inl (wd.rh _ _ h1), e2, done_v wd k q r⟩
  · exact h.elim
theorem de_ix {X : Cx} {pos : Pos} {a b : Expr} {ca cb : C} (ha : DE X a ca) (hb : DE X b cb) (hs : PlainIx b := by exact fun _ _ => rfl) : DE X (.Subscript a b pos) (cOp fIx ca cb) :=
  PEimp (pe_ix ix_seq ha hb hs) fun _ _ _ h => tOp_of o_ix h

/-! ### slices -/
abbrev CO := Env → (Option Int → Prop) → Prop
def tO (K : PySem.W.Frag) (c : CO) : TO := fun σ H Q => ∃ S R env Qd, Wd S R H ∧ EnvR K S R H σ env ∧ c env Qd ∧ ∀ o R' H', Qd o → Wx S [] R H R' H' → Q o H'
abbrev DO (X : Cx) (e : Option Expr) (c : CO) : Prop := PO X e (tO X.K c)
theorem POimp {X : Cx} {e : Option Expr} {t t' : TO} (h : PO X e t) (i : ∀ σ H Q, t' σ H Q → t σ H Q) : PO X e t' := ⟨fun pins s σ H Q I q => h.run pins s σ H Q I (i σ H Q q)⟩
def oNone : CO := fun _ Q => Q none
def oSome (c : C) : CO := fun env Q => c env fun d => ∃ i, d = .int i ∧ Q (some i)
section
variable {X : Cx} {pos : Pos} {a : Expr} {ca : C} {lo hi : Option Expr} {cl ch : CO}
theorem do_none : DO X none oNone := POimp po_none fun σ H Q ⟨S, R, env, Qd, wd, er, hq, k⟩ => k none R H hq wd.refl
theorem do_some (h : DE X a ca) : DO X (some a) (oSome ca) := POimp (po_some h) fun σ H Q ⟨S, R, env, Qd, wd, er, hq, k⟩ => ⟨S, R, env, _, wd, er, hq, fun d v R1 H1 ⟨i, e, q⟩ w r => by
  subst e
  obtain rfl := int_v r
  exact ⟨i, rfl, k _ R1 H1 q w⟩⟩
def cutD (ds : List D) (lo hi : Option Int) : List D := (ds.drop (HT.sIx ds.length 0 lo)).take (HT.sIx ds.length ds.length hi - HT.sIx ds.length 0 lo)
def fSl : D → Option Int → Option Int → (D → Prop) → Prop
  | .tup ds, lo, hi, Q => ¬ (HT.sIx ds.length 0 lo = 0 ∧ HT.sIx ds.length ds.length hi = ds.length) ∧ Q (.tup (cutD ds lo hi))
  | .lst ds, lo, hi, Q => Q (.lst (cutD ds lo hi))
  | _, _, _, _ => False
def cSl (ca : C) (cl ch : CO) : C := fun env Q => ca env fun x => cl env fun l => ch env fun h => fSl x l h Q
theorem de_sl {p2 : Pos} (ha : DE X a ca) (hl : DO X lo cl) (hh : DO X hi ch) : DE X (.Subscript a (.Slice lo hi none p2) pos) (cSl ca cl ch) :=
  PEimp (pe_slice (sl_list.or sl_tupP) ha hl hh) fun σ H Q ⟨S, R, env, Qd, wd, er, hq, k⟩ => ⟨S, R, env, _, wd, er, hq, fun d v R1 H1 q w r =>
    ⟨S, R1, env, _, w.wd, er.step w, q, fun l R2 H2 q2 w2 => ⟨S, R2, env, _, w2.wd, (er.step w).step w2, q2, fun h R3 H3 q3 w3 => by
      have wa := (w.tr w2).tr w3
      have r3 := r.mono (w2.rr.trans w3.rr)
      have kk : ∀ d w R' H', Qd d → Wx S [] R3 H3 R' H' → Rep X.K S R' w d → Q w H' := fun d w' R' H' hd w4 r4 => k d w' R' H' hd (wa.tr w4) r4
      unfold fSl at q3
      split at q3
      · obtain ⟨a, vs, rfl, h1, h2⟩ := tup_v r3
        refine .inr ⟨a, vs, rfl, h1.sq w3.rh, by rw [h2.len]; exact q3.1, fun p o ho hp => ?_⟩
        refine done_tup w3.wd kk q3.2 ?_ ho hp
        unfold cutV cutD
        rw [h2.len]
        exact (h2.drop _).take _
      · obtain ⟨a, vs, rfl, h1, h2⟩ := lst_v r3
        refine .inl ⟨a, vs, rfl, .inl (w3.rh _ _ h1), fun p hp => ?_⟩
        refine done_lst w3.wd kk q3 ?_ hp
        unfold cutV cutD
        rw [h2.len]
        exact (h2.drop _).take _
      · exact q3.elim⟩⟩⟩
end

/-! ### calls by values -/
def CallD (K : PySem.W.Frag) (r : List V → Hp → VK → Prop) (f : List D → (D → Prop) → Prop) : Prop := ∀ S R H xs vs Qd Q, Wd S R H → RepL K S R vs xs → f xs Qd →
  (∀ d w R' H', Qd d → Wx S [] R H R' H' → Rep K S R' w d → Q w H') → r vs H Q
def cCB (f : List D → (D → Prop) → Prop) (ca : CA) : C := fun env Q => ca env fun ds => f ds Q
theorem tCB_of {K : PySem.W.Frag} {r : List V → Hp → VK → Prop} {f : List D → (D → Prop) → Prop} {ca : CA} (o : CallD K r f) {σ : L2.St} {H : Hp} {Q : VK} (h : tD K (cCB f ca) σ H Q) : tCB r (tL K ca) σ H Q := by
  obtain ⟨S, R, env, Qd, wd, er, hq, k⟩ := h
  exact ⟨S, R, env, _, wd, er, hq, fun ds vs R1 H1 q w r => o S R1 H1 ds vs Qd Q w.wd r q fun d v R' H' hd w2 r2 => k d v R' H' hd (w.tr w2) r2⟩
section
variable {X : Cx} {x : Str} {p pos : Pos} {e : Expr} {es : List Expr} {ca : CA} {id T : String} {r : List V → Hp → VK → Prop} {f : List D → (D → Prop) → Prop}
theorem de_callB (hc : CallR X (.builtin id) r) (o : CallD X.K r f) (hg : Gl X x) (hm : X.mg x = none) (hv : bootBuiltins x = some (.builtin id)) (ha : DL X (e :: es) ca) (hn : x ≠ "__name__" := by decide) (hdb : (x == ("__debug__" : Str)) = false := by decide)
    (he : starEach (e :: es) X.env = (false, eval e X.env) :: starEach es X.env := by rfl) (hpl : (backTo pos (starEach es X.env)).any (·.1) = false := by rfl) : DE X (.Call (.Name x p) (e :: es) [] pos) (cCB f ca) :=
  PEimp (pe_callB hc hg hm hv ha hn hdb he hpl) fun _ _ _ h => tCB_of o h
theorem de_callTy (hc : CallR X (.type T) r) (o : CallD X.K r f) (hg : Gl X x) (hm : X.mg x = none) (hv : bootBuiltins x = some (.type T)) (ha : DL X (e :: es) ca) (hn : x ≠ "__name__" := by decide) (hdb : (x == ("__debug__" : Str)) = false := by decide)
    (he : starEach (e :: es) X.env = (false, eval e X.env) :: starEach es X.env := by rfl) (hpl : (backTo pos (starEach es X.env)).any (·.1) = false := by rfl) : DE X (.Call (.Name x p) (e :: es) [] pos) (cCB f ca) :=
  PEimp (pe_callTy hc hg hm hv ha hn hdb he hpl) fun _ _ _ h => tCB_of o h
end
theorem one_v {K : PySem.W.Frag} {S : Sa} {R : Hp} {vs : List V} {d : D} (h : RepL K S R vs [d]) : ∃ v, vs = [v] ∧ Rep K S R v d := by
  cases h with | cons a b => cases b; exact ⟨_, rfl, a⟩
theorem two_v {K : PySem.W.Frag} {S : Sa} {R : Hp} {vs : List V} {d e : D} (h : RepL K S R vs [d, e]) : ∃ v w, vs = [v, w] ∧ Rep K S R v d ∧ Rep K S R w e := by
  cases h with | cons a b => cases b with | cons b c => cases c; exact ⟨_, _, rfl, a, b⟩
section
variable {K : PySem.W.Frag}
def fLen : List D → (D → Prop) → Prop
  | [.tup ds], Q => Q (.int ds.length)
  | [.lst ds], Q => Q (.int ds.length)
  | _, _ => False
theorem o_len : CallD K (fun xs H Q => ∃ p ys, xs = [.ref p] ∧ (SqL K H p ys ∨ SqT K H p ys) ∧ Q (.int ys.length) H) fLen := by
  intro S R H xs vs Qd Q wd r h k
  unfold fLen at h
  split at h
  · obtain ⟨v, rfl, q0⟩ := one_v r
    obtain ⟨a, vs, rfl, h1, h2⟩ := tup_v q0
    exact ⟨a, vs, rfl, .inr (h1.sq wd.rh), by rw [h2.len]; exact done_v wd k h (.int _)⟩
  · obtain ⟨v, rfl, q0⟩ := one_v r
    obtain ⟨a, vs, rfl, h1, h2⟩ := lst_v q0
    exact ⟨a, vs, rfl, .inl (.inl (wd.rh _ _ h1)), by rw [h2.len]; exact done_v wd k h (.int _)⟩
  · exact h.elim
def fInt : List D → (D → Prop) → Prop
  | [.int i], Q => Q (.int i)
  | [.bl b], Q => Q (.int (if b then 1 else 0))
  | _, _ => False
theorem o_int : CallD K (fun xs H Q => (∃ i, xs = [.int i] ∧ Q (.int i) H) ∨ ∃ k, xs = [.bl k] ∧ Q (.int (if k then 1 else 0)) H) fInt := by
  intro S R H xs vs Qd Q wd r h k
  unfold fInt at h
  split at h
  · obtain ⟨v, rfl, q0⟩ := one_v r
    obtain rfl := int_v q0
    exact .inl ⟨_, rfl, done_v wd k h (.int _)⟩
  · obtain ⟨v, rfl, q0⟩ := one_v r
    obtain rfl := bl_v q0
    exact .inr ⟨_, rfl, done_v wd k h (.int _)⟩
  · exact h.elim
def fMax : List D → (D → Prop) → Prop
  | [.int i, .int j], Q => Q (.int (if j > i then j else i))
  | _, _ => False
theorem o_max : CallD K (fun xs H Q => ∃ i j, xs = [.int i, .int j] ∧ Q (.int (if j > i then j else i)) H) fMax := by
  intro S R H xs vs Qd Q wd r h k
  unfold fMax at h
  split at h
  · obtain ⟨v, w, rfl, r1, r2⟩ := two_v r
    obtain rfl := int_v r1; obtain rfl := int_v r2
    exact ⟨_, _, rfl, done_v wd k h (.int _)⟩
  · exact h.elim
def fTuple : List D → (D → Prop) → Prop
  | [.lst ds], Q => Q (.tup ds)
  | [.tup ds], Q => Q (.tup ds)
  | _, _ => False
theorem o_tuple : CallD K (rTupP K) fTuple := by
  intro S R H xs vs Qd Q wd r h k
  unfold fTuple at h
  split at h
  · obtain ⟨v, rfl, q0⟩ := one_v r
    obtain ⟨a, vs, rfl, h1, h2⟩ := lst_v q0
    exact ⟨a, vs, rfl, .inl ⟨.inl (wd.rh _ _ h1), fun l o ho hl => done_tup wd k h h2 ho hl⟩⟩
  · obtain ⟨v, rfl, q0⟩ := one_v r
    obtain ⟨a, vs, rfl, h1, h2⟩ := id (tup_v q0)
    exact ⟨a, vs, rfl, .inr ⟨h1.sq wd.rh, done_v wd k h q0⟩⟩
  · exact h.elim
end
section
variable {X : Cx} {p pos : Pos} {e e2 : Expr} {ca : CA}
theorem de_len (hg : Gl X "len") (hm : X.mg "len" = none) (ha : DL X [e] ca) (he : starEach [e] X.env = (false, eval e X.env) :: starEach [] X.env := by rfl) : DE X (.Call (.Name "len" p) [e] [] pos) (cCB fLen ca) :=
  de_callB call_len_seq o_len hg hm PySem.boot_len ha (by decide) (by decide) he rfl
theorem de_intC (hg : Gl X "int") (hm : X.mg "int" = none) (ha : DL X [e] ca) (he : starEach [e] X.env = (false, eval e X.env) :: starEach [] X.env := by rfl) : DE X (.Call (.Name "int" p) [e] [] pos) (cCB fInt ca) :=
  de_callTy call_int1 o_int hg hm (by decide +kernel) ha (by decide) (by decide) he rfl
theorem de_max (hc : X.calm = true) (hg : Gl X "max") (hm : X.mg "max" = none) (ha : DL X [e, e2] ca) (he : starEach [e, e2] X.env = (false, eval e X.env) :: starEach [e2] X.env := by rfl) (hpl : (backTo pos (starEach [e2] X.env)).any (·.1) = false := by rfl) : DE X (.Call (.Name "max" p) [e, e2] [] pos) (cCB fMax ca) :=
  de_callB (call_max2 hc) o_max hg hm (by decide +kernel) ha (by decide) (by decide) he hpl
theorem de_tuple (hg : Gl X "tuple") (hm : X.mg "tuple" = none) (ha : DL X [e] ca) (he : starEach [e] X.env = (false, eval e X.env) :: starEach [] X.env := by rfl) : DE X (.Call (.Name "tuple" p) [e] [] pos) (cCB fTuple ca) :=
  de_callTy call_tuple_ofP o_tuple hg hm (by decide +kernel) ha (by decide) (by decide) he rfl
end

/-! ### defs of the text -/
/-- what a def does, as data -/
def spD (K : PySem.W.Frag) (n : Nat) (f : List D → (D → Prop) → Prop) : Sp := fun vs H Q _ => ∃ S R ds Qd, Wd S R H ∧ RepL K S R vs ds ∧ ds.length = n ∧ f ds Qd ∧
  ∀ d v R' H', Qd d → Wx S [] R H R' H' → Rep K S R' v d → Q v H'
theorem spD_len {K : PySem.W.Frag} {n : Nat} {f : List D → (D → Prop) → Prop} {ps : List Str} (hn : ps.length = n) : ∀ vs H Q E, spD K n f vs H Q E → vs.length = ps.length := by
  rintro vs H Q E ⟨S, R, ds, Qd, wd, r, hl, _⟩
  rw [r.len, hl, hn]
def cCall (n : Nat) (f : List D → (D → Prop) → Prop) (ca : CA) : C := fun env Q => ca env fun ds => ds.length = n ∧ f ds Q
theorem tCall_of {K : PySem.W.Frag} {n : Nat} {f : List D → (D → Prop) → Prop} {ca : CA} {E : XK} {σ : L2.St} {H : Hp} {Q : VK} (h : tD K (cCall n f ca) σ H Q) : tCall (spD K n f) [] E (tL K ca) σ H Q := by
  obtain ⟨S, R, env, Qd, wd, er, hq, k⟩ := h
  exact ⟨S, R, env, _, wd, er, hq, fun ds vs R1 H1 q w r => by
    show spD K n f (vs ++ []) H1 Q E
    rw [List.append_nil]
    exact ⟨S, R1, ds, Qd, w.wd, r, q.1, q.2, fun d v R' H' hd w2 r2 => k d v R' H' hd (w.tr w2) r2⟩⟩
theorem de_call {X : Cx} {k n : Nat} {fa : Addr} {fd : FuncData} {ps : List Str} {f : List D → (D → Prop) → Prop} {x : Str} {p pos : Pos} {e : Expr} {es : List Expr} {ca : CA}
    (F : FnOk X.prog X.w X.K X.mg X.base CX0 k fa fd ps (spD X.K n f)) (hr : Room k X.A) (hg : Gl X x) (hm : X.mg x = some (.ref fa)) (hk : PySem.W.keepIn X.K (.ref fa) = true) (hb : Binds X.K fd ps [])
    (ha : DL X (e :: es) ca) (hdb : (x == ("__debug__" : Str)) = false := by decide) (he : starEach (e :: es) X.env = (false, eval e X.env) :: starEach es X.env := by rfl) (hpl : (backTo pos (starEach es X.env)).any (·.1) = false := by rfl) :
    DE X (.Call (.Name x p) (e :: es) [] pos) (cCall n f ca) :=
  PEimp (pe_call (E := E0) F hr hg hm hk hb .nil pass0 ha hdb he hpl) fun _ _ _ h => tCall_of h

/-! ### dicts -/
def lk (k : Str) (kvs : List (Str × D)) : Option D := (kvs.find? fun p => decide (p.1 = k)).map (·.2)
theorem lk_nil (k : Str) : lk k [] = none := rfl
theorem lk_cons (k k' : Str) (d : D) (r : List (Str × D)) : lk k ((k', d) :: r) = if k' = k then some d else lk k r := by
  unfold lk
  by_cases h : k' = k
  · rw [if_pos h]; simp [List.find?_cons, h]
  · rw [if_neg h]; simp [List.find?_cons, h]
theorem RepK.lk {K : PySem.W.Frag} {S : Sa} {R : Hp} {k : Str} : ∀ {ws : List (Key × V)} {kvs : List (Str × D)}, RepK K S R ws kvs → (E64.lk k kvs = none → valV ws (.inr k) = none) ∧ ∀ d, E64.lk k kvs = some d → ∃ v, valV ws (.inr k) = some v ∧ Rep K S R v d
  | _, _, .nil => ⟨fun _ => rfl, fun d e => by cases e⟩
  | _, _, .cons (k := k') (v := v) (d := d0) h r => by
    obtain ⟨i1, i2⟩ := RepK.lk (k := k) r
    by_cases e : k' = k
    · subst e
      rw [lk_cons, if_pos rfl, valV_pos rfl]
      exact ⟨fun z => (by cases z), fun d z => (by cases z; exact ⟨v, rfl, h⟩)⟩
    · rw [lk_cons, if_neg e, valV_neg (fun z => e (Sum.inr.inj z))]
      exact ⟨i1, i2⟩
theorem RepK.lkO {K : PySem.W.Frag} {S : Sa} {R : Hp} {k : Str} {ws : List (Key × V)} {kvs : List (Str × D)} (h : RepK K S R ws kvs) : (valV ws (.inr k)).isSome = (E64.lk k kvs).isSome := by
  obtain ⟨i1, i2⟩ := h.lk (k := k)
  cases e : E64.lk k kvs with
  | none => rw [i1 e]; rfl
  | some d => obtain ⟨v, e1, _⟩ := i2 d e; rw [e1]; rfl
theorem DGet_of {H : Hp} {a : Addr} {ws : List (Key × V)} {k : Str} (h : Rd H a (.dK ws)) : DGet H a (.str k) (valV ws (.inr k)) := .inl ⟨ws, .inr k, h, rfl, rfl⟩
def fDGet : D → D → (D → Prop) → Prop
  | .dct kvs, .str k, Q => ∃ d, lk k kvs = some d ∧ Q d
  | _, _, _ => False
def cDGet (cd ck : C) : C := fun env Q => cd env fun x => ck env fun y => fDGet x y Q
section
variable {X : Cx} {pos : Pos} {o i f : Expr} {cd ck cx : C} {apos cpos : Pos}
theorem de_dget (hu : X.A.units + 1 < cLine) (ho : DE X o cd) (hi : DE X i ck) (hs : NoSl i := by exact fun _ _ => rfl) : DE X (.Subscript o i pos) (cDGet cd ck) :=
  PEimp (pe_dget hu ho hi hs) fun σ H Q ⟨S, R, env, Qd, wd, er, hq, k⟩ => ⟨S, R, env, _, wd, er, hq, fun x v R1 H1 q w r => ⟨S, R1, env, _, w.wd, er.step w, q, fun y u R2 H2 q2 w2 r2 => by
    unfold fDGet at q2
    split at q2
    · obtain ⟨a, ws, rfl, h1, h2⟩ := dct_v (r.mono w2.rr)
      obtain rfl := str_v r2
      obtain ⟨d, e, q⟩ := q2
      obtain ⟨v, e1, r3⟩ := (h2.lk).2 d e
      refine ⟨a, v, rfl, ?_, k d v R2 H2 q (w.tr w2) r3⟩
      rw [← e1]
      exact DGet_of (w2.rh _ _ h1)
    · exact q2.elim⟩⟩
def fDIn : D → D → (Bool → Prop) → Prop
  | .str k, .dct kvs, Q => Q (lk k kvs).isSome
  | _, _, _ => False
def cDIn (ck cd : C) : CB := fun env Q => ck env fun y => cd env fun x => fDIn y x Q
theorem dt_din (hu : X.A.units + 1 < cLine) (hi : DE X i ck) (ho : DE X o cd) (h1 : behindInMarks .In o = false := by rfl) : DT X (.Compare i [.In] [o] pos) (cDIn ck cd) :=
  PTimp (pt_cmp (pc_din hu hi ho) h1) fun σ H Q ⟨S, R, env, Qd, wd, er, hq, k⟩ => ⟨S, R, env, _, wd, er, hq, fun y u R1 H1 q w r => ⟨S, R1, env, _, w.wd, er.step w, q, fun x v R2 H2 q2 w2 r2 => by
    unfold fDIn at q2
    split at q2
    · obtain ⟨a, ws, rfl, h1, h2⟩ := dct_v r2
      obtain rfl := str_v (r.mono w2.rr)
      exact ⟨a, _, rfl, DGet_of (w2.rh _ _ h1), _, rfl, k _ R2 H2 (by rw [h2.lkO]; exact q2) (w.tr w2)⟩
    · exact q2.elim⟩⟩
def fGet1 : D → D → (D → Prop) → Prop
  | .dct kvs, .str k, Q => Q ((lk k kvs).getD .non)
  | _, _, _ => False
def cGet1 (cd ck : C) : C := fun env Q => cd env fun x => match x with
  | .dct _ => ck env fun y => fGet1 x y Q
  | _ => False
theorem de_get1 (hu : X.A.units + 1 < cLine) (ho : DE X o cd) (he : DE X i ck) (m : M1 X o "get" apos i cpos := by exact ⟨rfl, rfl, rfl, rfl⟩) : DE X (.Call (.Attribute o "get" apos) [i] [] cpos) (cGet1 cd ck) :=
  PEimp (pe_dget1 hu ho he m) fun σ H Q ⟨S, R, env, Qd, wd, er, hq, k⟩ => ⟨S, R, env, _, wd, er, hq, fun x v R1 H1 q w r => by
    cases r with
    | @dct a ws kv h1 h2 =>
      refine ⟨_, rfl, .inl ⟨_, w.rh _ _ h1⟩, S, R1, env, _, w.wd, er.step w, q, fun y u R2 H2 q2 w2 r2 => ?_⟩
      cases r2 with
      | str k' =>
        have q2 : Qd ((lk k' kv).getD .non) := q2
        refine ⟨_, DGet_of (w2.rh _ _ (w2.rr _ _ h1)), ?_⟩
        obtain ⟨i1, i2⟩ := h2.lk (k := k')
        cases e : lk k' kv with
        | none => rw [e] at q2; rw [i1 e]; exact k _ _ R2 H2 q2 (w.tr w2) .non
        | some d =>
          rw [e] at q2
          obtain ⟨v, e1, r3⟩ := i2 d e
          rw [e1]
          exact k _ _ R2 H2 q2 (w.tr w2) (r3.mono w2.rr)
      | _ => exact q2.elim
    | _ => exact q.elim⟩
def fGet2 : D → D → D → (D → Prop) → Prop
  | .dct kvs, .str k, z, Q => Q ((lk k kvs).getD z)
  | _, _, _, _ => False
def cGet2 (cd ck cx : C) : C := fun env Q => cd env fun x => match x with
  | .dct _ => ck env fun y => cx env fun z => fGet2 x y z Q
  | _ => False
theorem de_get2 (hu : X.A.units + 1 < cLine) (ho : DE X o cd) (he : DE X i ck) (hf : DE X f cx) (m : M2 X o "get" apos i f cpos := by exact ⟨rfl, rfl, rfl, rfl⟩) : DE X (.Call (.Attribute o "get" apos) [i, f] [] cpos) (cGet2 cd ck cx) :=
  PEimp (pe_dget2 hu ho he hf m) fun σ H Q ⟨S, R, env, Qd, wd, er, hq, k⟩ => ⟨S, R, env, _, wd, er, hq, fun x v R1 H1 q w r => by
    cases r with
    | @dct a ws kv h1 h2 =>
      refine ⟨_, rfl, .inl ⟨_, w.rh _ _ h1⟩, S, R1, env, _, w.wd, er.step w, q, fun y u R2 H2 q2 w2 r2 => ⟨S, R2, env, _, w2.wd, (er.step w).step w2, q2, fun z t R3 H3 q3 w3 r3 => ?_⟩⟩
      have w23 := w2.rr.trans w3.rr
      cases r2 with
      | str k' =>
        have q3 : Qd ((lk k' kv).getD z) := q3
        refine ⟨_, DGet_of (w3.rh _ _ (w23 _ _ h1)), ?_⟩
        obtain ⟨i1, i2⟩ := h2.lk (k := k')
        cases e : lk k' kv with
        | none => rw [e] at q3; rw [i1 e]; exact k _ _ R3 H3 q3 ((w.tr w2).tr w3) r3
        | some d =>
          rw [e] at q3
          obtain ⟨v, e1, r4⟩ := i2 d e
          rw [e1]
          exact k _ _ R3 H3 q3 ((w.tr w2).tr w3) (r4.mono w23)
      | _ => exact q3.elim
    | _ => exact q.elim⟩
end
end E64
/-! statements, targets, walks, comprehensions -/
namespace E64
open PySem PySem.Spec PyProof.Rows L2

/-! ### slots stored -/
section
variable {K : PySem.W.Frag} {S : Sa} {R H : Hp} {σ : L2.St} {e : Env}
theorem ow_put {i : Nat} {d : D} {j : Nat} {o : D} (h : (e.put i d).ow = some (j, o)) : e.ow = some (j, o) ∧ j ≠ i := by
  unfold Env.put at h
  simp only at h
  split at h
  · rename_i j' o' q
    split at h
    · cases h
    · rename_i ne; cases h; exact ⟨q, ne⟩
  · cases h
theorem EnvR.put {i : Nat} {d : D} {v : V} (h : EnvR K S R H σ e) (r : Rep K S R v d) : EnvR K S R H (σ.set i (some v)) (e.put i d) := by
  refine ⟨by show (e.sl.set i _).length = _; rw [List.length_set, List.length_set, h.len], fun j x q => ?_, fun j o q => ?_⟩
  · have q : (e.sl.set i (some d))[j]? = some (some x) := q
    by_cases hj : i = j
    · subst hj
      have hl : i < e.sl.length := by
        rcases Nat.lt_or_ge i e.sl.length with z | z
        · exact z
        · rw [List.getElem?_eq_none (by rw [List.length_set]; exact z)] at q; cases q
      rw [List.getElem?_set_self hl] at q
      cases q
      exact ⟨v, by rw [List.getElem?_set_self (by rw [← h.len]; exact hl)], r⟩
    · rw [List.getElem?_set_ne hj] at q
      obtain ⟨w, q1, q2⟩ := h.sl j x q
      exact ⟨w, by rw [List.getElem?_set_ne hj]; exact q1, q2⟩
  · obtain ⟨q1, q2⟩ := ow_put q
    obtain ⟨p, q3, q4⟩ := h.ow j o q1
    exact ⟨p, by rw [List.getElem?_set_ne (Ne.symm q2)]; exact q3, q4⟩
theorem own_put {i : Nat} {d : D} {v : V} {p : Addr} (h : p ∈ ownA (σ.set i (some v)) (e.put i d)) : p ∈ ownA σ e := by
  obtain ⟨j, o, h1, h2⟩ := ownA_mem h
  obtain ⟨q1, q2⟩ := ow_put h1
  rw [List.getElem?_set_ne (Ne.symm q2)] at h2
  rw [ownA_of q1 h2]
  exact List.mem_singleton.mpr rfl
theorem EnvR.own {i : Nat} {d : D} {p : Addr} (h : EnvR K S R H σ e) (hi : i < e.sl.length) (r : OwnR K S R H p d) : EnvR K S R H (σ.set i (some (.ref p))) (e.own i d) := by
  refine ⟨by show (e.sl.set i _).length = _; rw [List.length_set, List.length_set, h.len], fun j x q => ?_, fun j o q => ?_⟩
  · have q : (e.sl.set i none)[j]? = some (some x) := q
    by_cases hj : i = j
    · subst hj
      rw [List.getElem?_set_self hi] at q
      cases q
    · rw [List.getElem?_set_ne hj] at q
      obtain ⟨w, q1, q2⟩ := h.sl j x q
      exact ⟨w, by rw [List.getElem?_set_ne hj]; exact q1, q2⟩
  · have q : some (i, d) = some (j, o) := q
    cases q
    exact ⟨p, by rw [List.getElem?_set_self (by rw [← h.len]; exact hi)], r⟩
theorem own_own {i : Nat} {d : D} {p q : Addr} (hi : i < e.sl.length) (hl : e.sl.length = σ.length) (h : q ∈ ownA (σ.set i (some (.ref p))) (e.own i d)) : q = p := by
  have h2 : ownA (σ.set i (some (.ref p))) (e.own i d) = [p] := ownA_of (i := i) (d := d) rfl (by rw [List.getElem?_set_self (by rw [← hl]; exact hi)])
  rw [h2] at h
  exact List.mem_singleton.mp h
def putsD (e : Env) : List Nat → List D → Env
  | i :: is, d :: ds => putsD (e.put i d) is ds
  | _, _ => e
def setsV (σ : L2.St) : List Nat → List V → L2.St
  | i :: is, v :: vs => setsV (σ.set i (some v)) is vs
  | _, _ => σ
theorem EnvR.puts : ∀ {is : List Nat} {ds : List D} {vs : List V} {e : Env} {σ : L2.St}, EnvR K S R H σ e → RepL K S R vs ds → EnvR K S R H (setsV σ is vs) (putsD e is ds)
  | [], _, _, _, _, h, _ => h
  | _ :: _, _, _, _, _, h, .nil => h
  | i :: is, _, _, _, _, h, .cons r rs => EnvR.puts (is := is) (h.put r) rs
theorem own_puts : ∀ {is : List Nat} {ds : List D} {vs : List V} {e : Env} {σ : L2.St} {p : Addr}, RepL K S R vs ds → p ∈ ownA (setsV σ is vs) (putsD e is ds) → p ∈ ownA σ e
  | [], _, _, _, _, _, _, h => h
  | _ :: _, _, _, _, _, _, .nil, h => h
  | i :: is, _, _, _, _, _, .cons r rs, h => own_put (own_puts (is := is) rs h)
theorem EnvR.same {xs : List Addr} {R1 H1 : Hp} (h : EnvR K S R H σ e) (w : Wx S xs R H R1 H1) (hx : ∀ p ∈ ownA σ e, p ∉ xs) : EnvR K S R1 H1 σ e :=
  ⟨h.len, fun i d q => let ⟨v, a, b⟩ := h.sl i d q; ⟨v, a, b.mono w.rr⟩, fun i d q => let ⟨p, a, b⟩ := h.ow i d q; ⟨p, a, b.step w (hx p (by rw [ownA_of q a]; exact List.mem_singleton.mpr rfl))⟩⟩
end

/-! ### blocks -/
section
variable {X : Cx} {st : Stmt} {rest : List Stmt} {c1 c2 : CS} {e : Expr} {ce : C} {pos : Pos}
def sNil : CS := fun env Nx _ => Nx env
def sSeq (a b : CS) : CS := fun env Nx Rt => a env (fun env1 => b env1 Nx Rt) Rt
theorem ds_nil : DSs X [] sNil := PSsimp pss_nil fun Dn σ H ⟨S, R, env, Nx, Rt, wd, er, hq, k1, k2⟩ => k1 env σ R H hq wd.refl er fun _ h => .inl h
theorem ds_cons (h1 : DS X st c1) (h2 : DSs X rest c2) : DSs X (st :: rest) (sSeq c1 c2) :=
  PSsimp (pss_cons h1 h2) fun Dn σ H ⟨S, R, env, Nx, Rt, wd, er, hq, k1, k2⟩ => ⟨S, R, env, _, Rt, wd, er, hq, fun env1 σ1 R1 H1 q w e1 o1 =>
    ⟨S, R1, env1, Nx, Rt, w.wd, e1, q, fun env2 σ2 R2 H2 q2 w2 e2 o2 => k1 env2 σ2 R2 H2 q2 (w.trans w2 o1) e2 fun p hp => (o2 p hp).elim (fun z => o1 p z) fun z => .inr (by
      cases e : H p with
      | none => rfl
      | some o => exact absurd z (w.hn p (by rw [e]; simp))),
      fun d v R2 H2 q2 w2 r2 => k2 d v R2 H2 q2 (w.trans w2 o1) r2⟩, k2⟩
theorem ds_one (h1 : DS X st c1) : DSs X [st] c1 := pss_one h1
def sRet (ce : C) : CS := fun env _ Rt => ce env Rt
theorem ds_ret (he : DE X e ce) : DS X (.Return (some e) pos) (sRet ce) :=
  PSimp (ps_ret he) fun Dn σ H ⟨S, R, env, Nx, Rt, wd, er, hq, k1, k2⟩ => ⟨S, R, env, Rt, wd, er, hq, fun d v R' H' hd w r => k2 d v R' H' hd w.nil r⟩
/-- return x, x ours -/
def sRetO (i : Nat) : CS := fun env _ Rt => ∃ d, env.ow = some (i, d) ∧ Rt d
theorem ds_retO {i : Nat} (h : PE X e (tVar i)) : DS X (.Return (some e) pos) (sRetO i) :=
  PSimp (ps_ret h) fun Dn σ H ⟨S, R, env, Nx, Rt, wd, er, ⟨d, ho, hq⟩, k1, k2⟩ => by
    obtain ⟨p, hp, ow⟩ := er.ow i d ho
    obtain ⟨o, h1, r⟩ := ow.freeze
    refine ⟨_, hp, k2 d _ _ H hq (wd.froze h1 ow.rn ow.n1 ow.n2 (by rw [ownA_of ho hp]; simp)) r⟩
def sIf (ct : CB) (a b : CS) : CS := fun env Nx Rt => ct env fun x => if x = true then a env Nx Rt else b env Nx Rt
theorem ds_if {c : Expr} {ct : CB} {a b : List Stmt} (hc : DT X c ct) (ha : DSs X a c1) (hb : DSs X b c2) : DS X (.If c a b pos) (sIf ct c1 c2) :=
  PSimp (ps_if hc ha hb) fun Dn σ H ⟨S, R, env, Nx, Rt, wd, er, hq, k1, k2⟩ => ⟨S, R, env, _, wd, er, hq, fun x R1 H1 q w => by
    have kk : ∀ env' σ' R' H', Nx env' → Wx S (ownA σ env) R1 H1 R' H' → EnvR X.K S R' H' σ' env' → (∀ p ∈ ownA σ' env', p ∈ ownA σ env ∨ H1 p = none) → Dn.nx σ' H' := fun env' σ' R' H' hn w2 e2 o2 =>
      k1 env' σ' R' H' hn (w.nil.tr w2) e2 fun p hp => (o2 p hp).elim .inl fun z => .inr (by
        cases e : H p with
        | none => rfl
        | some o => exact absurd z (w.hn p (by rw [e]; simp)))
    have kr : ∀ d v R' H', Rt d → Wx S (ownA σ env) R1 H1 R' H' → Rep X.K S R' v d → Dn.rt v H' := fun d v R' H' hd w2 r2 => k2 d v R' H' hd (w.nil.tr w2) r2
    cases x with
    | true => exact iteT ⟨S, R1, env, Nx, Rt, w.wd, er.step w, by simpa using q, kk, kr⟩
    | false => exact iteF ⟨S, R1, env, Nx, Rt, w.wd, er.step w, by simpa using q, kk, kr⟩⟩

/-! ### names stored -/
def sSet (i : Nat) (ce : C) : CS := fun env Nx _ => ce env fun d => Nx (env.put i d)
theorem ds_of {t : TE} {i : Nat} (h : PS X st (tAsg t (gName i))) (ht : ∀ σ H Q, tD X.K ce σ H Q → t σ H Q) : DS X st (sSet i ce) :=
  PSimp h fun Dn σ H ⟨S, R, env, Nx, Rt, wd, er, hq, k1, k2⟩ => ht _ _ _ ⟨S, R, env, _, wd, er, hq, fun d v R' H' hd w r => k1 _ _ R' H' hd w.nil ((er.step w).put r) fun p hp => .inl (own_put hp)⟩
theorem ds_set {i : Nat} {x : Str} {pos' : Pos} (hN : X.N.Nodup) (he : DE X e ce) (hi : X.N[i]? = some x := by rfl) (hx : Loc X.env.scope x := by first | exact .inl rfl | exact .inr rfl) (hs : swapsWith e (some (.Name x pos')) pos.line X.env = pure false := by rfl) (hf : X.fn x = true ∨ X.env.scope.names.lookup x = some .local := by first | exact .inl rfl | exact .inr rfl | assumption) :
    DS X (.Assign [.Name x pos'] e pos) (sSet i ce) := ds_of (ps_set hN hi hx he hs hf) fun _ _ _ h => h
/-- a fresh object, ours from now on -/
def sOwn (i : Nat) (ce : C) : CS := fun env Nx _ => i < env.sl.length ∧ ce env fun d => Nx (env.own i d)
theorem ds_ofO {t : TE} {i : Nat} (h : PS X st (tAsg t (gName i))) (ht : ∀ σ H Q, tF X.K ce σ H Q → t σ H Q) : DS X st (sOwn i ce) :=
  PSimp h fun Dn σ H ⟨S, R, env, Nx, Rt, wd, er, hq, k1, k2⟩ => ht _ _ _ ⟨S, R, env, _, wd, er, hq.2, fun d p R' H' hd w h0 ow => k1 _ _ R' H' hd w.nil ((er.step w).own hq.1 ow) fun q hq' => .inr (by rw [own_own hq.1 er.len hq']; exact h0)⟩
theorem ds_own {i : Nat} {x : Str} {pos' : Pos} (hN : X.N.Nodup) (he : DF X e ce) (hi : X.N[i]? = some x := by rfl) (hx : Loc X.env.scope x := by first | exact .inl rfl | exact .inr rfl) (hs : swapsWith e (some (.Name x pos')) pos.line X.env = pure false := by rfl) (hf : X.fn x = true ∨ X.env.scope.names.lookup x = some .local := by first | exact .inl rfl | exact .inr rfl | assumption) :
    DS X (.Assign [.Name x pos'] e pos) (sOwn i ce) := ds_ofO (ps_set hN hi hx he hs hf) fun _ _ _ h => h
/-- a frozen one by a fresh one's reading -/
theorem tF_of {K : PySem.W.Frag} {c : C} {t : TE} (ht : ∀ σ H Q, tF K c σ H Q → t σ H Q) : ∀ σ H Q, tD K c σ H Q → t σ H Q := fun σ H Q ⟨S, R, env, Qd, wd, er, hq, k⟩ =>
  ht σ H Q ⟨S, R, env, Qd, wd, er, hq, fun d p R' H' hd w h0 ow => by
    obtain ⟨o, ho, r⟩ := ow.freeze
    exact k d (.ref p) _ H' hd (w.froze ho h0 ow.rn ow.n1 ow.n2) r⟩
/-- a, b = x, y -/
def sPar (is : List Nat) (ca : CA) : CS := fun env Nx _ => ca env fun ds => ds.length = is.length ∧ Nx (putsD env is ds)
theorem ds_par2 {i j : Nat} {ta : TA} {ca : CA} (h : PS X st (tPar i j ta)) (ht : ∀ σ H Q, tL X.K ca σ H Q → ta σ H Q) : DS X st (sPar [i, j] ca) :=
  PSimp h fun Dn σ H ⟨S, R, env, Nx, Rt, wd, er, hq, k1, k2⟩ => ht _ _ _ ⟨S, R, env, _, wd, er, hq, fun ds vs R' H' hd w r => by
    obtain ⟨hl, hn⟩ := hd
    match ds, hl, r, hn with
    | [d1, d2], _, r, hn =>
      obtain ⟨v1, v2, rfl, r1, r2⟩ := two_v r
      exact ⟨v1, v2, rfl, k1 _ _ R' H' hn w.nil ((er.step w).puts (is := [i, j]) r) fun p hp => .inl (own_puts (is := [i, j]) r hp)⟩⟩
theorem three_v {K : PySem.W.Frag} {S : Sa} {R : Hp} {vs : List V} {d e f : D} (h : RepL K S R vs [d, e, f]) : ∃ v w u, vs = [v, w, u] := by
  cases h with | cons a b => cases b with | cons b c => cases c with | cons c g => cases g; exact ⟨_, _, _, rfl⟩
theorem ds_par3 {i j l : Nat} {ta : TA} {ca : CA} (h : PS X st (tPar3 i j l ta)) (ht : ∀ σ H Q, tL X.K ca σ H Q → ta σ H Q) : DS X st (sPar [i, j, l] ca) :=
  PSimp h fun Dn σ H ⟨S, R, env, Nx, Rt, wd, er, hq, k1, k2⟩ => ht _ _ _ ⟨S, R, env, _, wd, er, hq, fun ds vs R' H' hd w r => by
    obtain ⟨hl, hn⟩ := hd
    match ds, hl, r, hn with
    | [d1, d2, d3], _, r, hn =>
      obtain ⟨v1, v2, v3, rfl⟩ := three_v r
      exact ⟨v1, v2, v3, rfl, k1 _ _ R' H' hn w.nil ((er.step w).puts (is := [i, j, l]) r) fun p hp => .inl (own_puts (is := [i, j, l]) r hp)⟩⟩
/-- a, b = x, [..]: the second fresh and ours -/
def sParO (i j : Nat) (ca cb : C) : CS := fun env Nx _ => ca env fun d => i < env.sl.length ∧ j < env.sl.length ∧ cb env fun o => Nx ((env.put i d).own j o)
theorem ds_parO {i j : Nat} {ta tb : TE} {ca cb : C} (h : PS X st (tPar i j (tCons ta (tCons tb tNil)))) (ha : ∀ σ H Q, tD X.K ca σ H Q → ta σ H Q) (hb : ∀ σ H Q, tF X.K cb σ H Q → tb σ H Q) : DS X st (sParO i j ca cb) :=
  PSimp h fun Dn σ H ⟨S, R, env, Nx, Rt, wd, er, hq, k1, k2⟩ => ha _ _ _ ⟨S, R, env, _, wd, er, hq, fun d v R1 H1 q w r =>
    hb _ _ _ ⟨S, R1, env, _, w.wd, er.step w, q.2.2, fun o p R2 H2 q2 w2 h0 ow => ⟨v, .ref p, rfl, by
      have hp0 : H p = none := by
        cases e : H p with
        | none => rfl
        | some o => exact absurd h0 (w.hn p (by rw [e]; simp))
      have e2 := (((er.step w).step w2).put (i := i) (r.mono w2.rr))
      have hj : j < (env.put i d).sl.length := by show j < (env.sl.set i _).length; rw [List.length_set]; exact q.2.1
      exact k1 _ _ R2 H2 q2 (w.tr w2).nil (e2.own hj ow) fun z hz => .inr (by rw [own_own hj e2.len hz]; exact hp0)⟩⟩⟩

/-! ### targets -/
abbrev CG := D → Env → (Env → Prop) → Prop
def tG (K : PySem.W.Frag) (is : List Nat) (g : CG) : TG := fun v σ H Q => ∃ S R env d Qe, Wd S R H ∧ EnvR K S R H σ env ∧ Rep K S R v d ∧ g d env Qe ∧
  ∀ env' ws, Qe env' → EnvR K S R H (setsV σ is ws) env' → (∀ p ∈ ownA (setsV σ is ws) env', p ∈ ownA σ env) → Q (setsV σ is ws) H
abbrev DG (X : Cx) (tg : Expr) (is : List Nat) (g : CG) : Prop := PG X tg (tG X.K is g)
theorem PGimp {X : Cx} {e : Expr} {t t' : TG} (h : PG X e t) (i : ∀ v σ H Q, t' v σ H Q → t v σ H Q) : PG X e t' := ⟨fun pins s σ H v u Q I r q => h.run pins s σ H v u Q I r (i v σ H Q q)⟩
def gN (i : Nat) : CG := fun d env Q => Q (env.put i d)
theorem dg_name {tg : Expr} {i : Nat} (h : PG X tg (gName i)) : DG X tg [i] (gN i) := PGimp h fun v σ H Q ⟨S, R, env, d, Qe, wd, er, r, hq, k⟩ =>
  k _ [v] hq (er.put r) (fun p hp => own_put hp)
def tgs : List Nat → TGs
  | [] => gNil
  | i :: is => gCons (gName i) (tgs is)
theorem tgs_of : ∀ {is : List Nat} {vs : List V} {σ : L2.St} {H : Hp} {Q : L2.St → Hp → Prop}, vs.length = is.length → Q (setsV σ is vs) H → tgs is vs σ H Q
  | [], [], _, _, _, _, h => ⟨rfl, h⟩
  | [], _ :: _, _, _, _, e, _ => by simp at e
  | _ :: _, [], _, _, _, e, _ => by simp at e
  | i :: is, v :: vs, σ, H, Q, e, h => ⟨v, vs, rfl, tgs_of (is := is) (by simpa using e) h⟩
/-- (a, b, ..) = a tuple -/
def gT (is : List Nat) : CG := fun d env Q => match d with
  | .tup ds => ds.length = is.length ∧ Q (putsD env is ds)
  | .prs ds => ds.length = is.length ∧ Q (putsD env is ds)
  | _ => False
theorem dg_tup {es : List Expr} {k : Nat} {is : List Nat} {p2 : Pos} (hc : X.calm = true) (h : PGs X es (tgs is)) (hn : (assignEach es X.env).length = is.length := by rfl) (hst : (assignEach es X.env).findIdx? (·.1) = none := by rfl) : DG X (.Tuple es k p2) is (gT is) :=
  PGimp (pg_tup hc h hn hst) fun v σ H Q ⟨S, R, env, d, Qe, wd, er, r, hq, k⟩ => by
    cases r with
    | tup h1 h2 =>
      have hq : _ ∧ _ := hq
      exact ⟨_, _, rfl, h1.sq wd.rh, by rw [h2.len]; exact hq.1, tgs_of (by rw [h2.len]; exact hq.1) (k _ _ hq.2 (er.puts h2) (fun p hp => own_puts h2 hp))⟩
    | prs h1 h2 =>
      have hq : _ ∧ _ := hq
      exact ⟨_, _, rfl, .inl (wd.rh _ _ h1), by rw [h2.len]; exact hq.1, tgs_of (by rw [h2.len]; exact hq.1) (k _ _ hq.2 (er.puts h2) (fun p hp => own_puts h2 hp))⟩
    | _ => exact hq.elim
/-- (a, b, ..) = a list -/
def gU (is : List Nat) : CG := fun d env Q => match d with
  | .lst ds => ds.length = is.length ∧ Q (putsD env is ds)
  | _ => False
theorem dg_unl {es : List Expr} {k : Nat} {is : List Nat} {p2 : Pos} (hc : X.calm = true) (h : PGs X es (tgs is)) (hn : (assignEach es X.env).length = is.length := by rfl) (hst : (assignEach es X.env).findIdx? (·.1) = none := by rfl) : DG X (.Tuple es k p2) is (gU is) :=
  PGimp (pg_unl hc h hn hst) fun v σ H Q ⟨S, R, env, d, Qe, wd, er, r, hq, k⟩ => by
    cases r with
    | lst h1 h2 =>
      have hq : _ ∧ _ := hq
      exact ⟨_, _, rfl, .inl (wd.rh _ _ h1), by rw [h2.len]; exact hq.1, tgs_of (by rw [h2.len]; exact hq.1) (k _ _ hq.2 (er.puts h2) (fun p hp => own_puts h2 hp))⟩
    | _ => exact hq.elim
/-- target = e -/
def sAsg (ce : C) (g : CG) : CS := fun env Nx _ => ce env fun d => g d env Nx
theorem ds_asg {tg : Expr} {is : List Nat} {g : CG} (he : DE X e ce) (hg : DG X tg is g) (hs : swapsWithSole [tg] e pos.line X.env = pure false := by rfl) (hw : swappedStores [tg] e X.env = pure none := by rfl)
    (h1 : (assignEach [tg] X.env).map (·.2) = [assign tg X.env] := by rfl) : DS X (.Assign [tg] e pos) (sAsg ce g) :=
  PSimp (ps_asg he hg hs hw h1) fun Dn σ H ⟨S, R, env, Nx, Rt, wd, er, hq, k1, k2⟩ => ⟨S, R, env, _, wd, er, hq, fun d v R' H' hd w r =>
    ⟨S, R', env, d, Nx, w.wd, er.step w, r, hd, fun env' ws q e' o' => k1 env' _ R' H' q w.nil e' fun p hp => .inl (o' p hp)⟩⟩
end
end E64
/-! walks, loops, comprehensions, what is ours -/
namespace E64
open PySem PySem.Spec PyProof.Rows L2

section
variable {S : Sa} {xs : List Addr} {R H R1 H1 R2 H2 : Hp}
theorem Wx.hn' (w : Wx S xs R H R1 H1) {p : Addr} (h : H1 p = none) : H p = none := by
  cases e : H p with
  | none => rfl
  | some o => exact absurd h (w.hn p (by rw [e]; simp))
/-- an object of ours is written -/
theorem Wd.write (w : Wd S R H) {p : Addr} {o o' : HO} (hp : H p = some o) (rp : R p = none) (n1 : p ≠ S.s) (n2 : p ≠ S.c) : Wx S [p] R H R (upd H p o') := by
  refine ⟨Evl.Ex.refl R, ⟨fun a u e => ?_, fun a f u e => by rw [upd_ne (fun z => by rw [z, rp] at e; cases e)]; exact w.rh.nf a f u e⟩, fun a u h1 _ _ e => ?_, fun a e => ?_, fun _ _ _ h => h, ?_⟩
  · have ne : a ≠ p := fun z => by rw [z, rp] at e; cases e
    rcases w.rh a u e with q | ⟨f, q⟩
    · exact .inl (by rw [upd_ne ne]; exact q)
    · exact .inr ⟨f, by rw [upd_ne ne]; exact q⟩
  · rw [upd_ne fun z => h1 (by rw [z]; exact List.mem_singleton.mpr rfl)]; exact e
  · by_cases z : a = p
    · rw [z, upd_same]; simp
    · rw [upd_ne z]; exact e
  · obtain ⟨z1, z2, cs, l, m, t, q1, q2⟩ := w.so
    exact ⟨z1, z2, cs, l, m, t, by rw [upd_ne n1.symm]; exact q1, by rw [upd_ne n2.symm]; exact q2⟩
end

/-! ### what is walked -/
structure WalkD (K : PySem.W.Frag) (S : Sa) (R H : Hp) (J : It) (ds : List D) : Prop where
  go : ∀ xs R' H' i, Wx S xs R H R' H' → (∀ a ∈ xs, R a = none) → i < ds.length → J.go i H'
  stop : ∀ xs R' H' i, Wx S xs R H R' H' → (∀ a ∈ xs, R a = none) → ds.length ≤ i → J.stop i H'
  yld : ∀ xs R' H' i x H'' d, Wx S xs R H R' H' → (∀ a ∈ xs, R a = none) → J.yld i H' x H'' → ds[i]? = some d → ∃ R'', Wx S [] R' H' R'' H'' ∧ Rep K S R'' x d
def tI (K : PySem.W.Frag) (c : CA) : TI := fun σ H Q => ∃ S R env Qd, Wd S R H ∧ EnvR K S R H σ env ∧ c env Qd ∧
  ∀ ds J R' H', Qd ds → Wx S [] R H R' H' → WalkD K S R' H' J ds → Q J H'
abbrev DI (X : Cx) (tg e : Expr) (c : CA) : Prop := PI X tg e (tI X.K c)
theorem PIimp {X : Cx} {tg e : Expr} {t t' : TI} (h : PI X tg e t) (i : ∀ σ H Q, t' σ H Q → t σ H Q) : PI X tg e t' := ⟨fun pins s σ H Q I q => h.run pins s σ H Q I (i σ H Q q)⟩
section
variable {X : Cx} {tg e : Expr} {ce : C} {ca : CA} {pos p : Pos}
/-- a list or tuple that stays -/
def wSeq (ce : C) : CA := fun env Q => ce env fun d => match d with
  | .lst ds => Q ds
  | _ => False
def wTup (ce : C) : CA := fun env Q => ce env fun d => match d with
  | .tup ds => Q ds
  | _ => False
theorem walk_lst {K : PySem.W.Frag} {S : Sa} {R H : Hp} {a : Addr} {vs : List V} {ds : List D} (h1 : R a = some (.lst vs)) (h2 : RepL K S R vs ds) : WalkD K S R H (Itl K a) ds := by
  have sq : ∀ xs R' H', Wx S xs R H R' H' → SqL K H' a vs := fun xs R' H' w => .inl (w.rh _ _ (w.rr _ _ h1))
  refine ⟨fun xs R' H' i w hx hi => ?_, fun xs R' H' i w hx hi => ⟨vs, sq _ _ _ w, by rw [h2.len]; exact hi⟩, fun xs R' H' i x H'' d w hx ⟨e, y⟩ hd => ?_⟩
  · have hi' : i < vs.length := by rw [h2.len]; exact hi
    exact ⟨vs, vs[i], sq _ _ _ w, by simp [hi']⟩
  · subst e
    obtain ⟨v, q1, q2⟩ := h2.get hd
    have := y vs (sq _ _ _ w)
    rw [q1] at this
    cases this
    exact ⟨R', w.wd.refl, q2.mono w.rr⟩
theorem walk_tup {K : PySem.W.Frag} {S : Sa} {R H : Hp} {a : Addr} {vs : List V} {ds : List D} (h1 : TupR K R a vs) (h2 : RepL K S R vs ds) : WalkD K S R H (Itt K a) ds := by
  have sq : ∀ xs R' H', Wx S xs R H R' H' → SqT K H' a vs := fun xs R' H' w => (h1.mono w.rr).sq w.rh
  refine ⟨fun xs R' H' i w hx hi => ?_, fun xs R' H' i w hx hi => ⟨vs, sq _ _ _ w, by rw [h2.len]; exact hi⟩, fun xs R' H' i x H'' d w hx ⟨e, y⟩ hd => ?_⟩
  · have hi' : i < vs.length := by rw [h2.len]; exact hi
    exact ⟨vs, vs[i], sq _ _ _ w, by simp [hi']⟩
  · subst e
    obtain ⟨v, q1, q2⟩ := h2.get hd
    have := y vs (sq _ _ _ w)
    rw [q1] at this
    cases this
    exact ⟨R', w.wd.refl, q2.mono w.rr⟩
theorem di_list (he : DE X e ce) : DI X tg e (wSeq ce) := PIimp (pi_list he) fun σ H Q ⟨S, R, env, Qd, wd, er, hq, k⟩ => ⟨S, R, env, _, wd, er, hq, fun d v R1 H1 q w r => by
  cases r with
  | lst h1 h2 => exact ⟨_, rfl, ⟨_, .inl (w.rh _ _ h1)⟩, k _ _ R1 H1 q w (walk_lst h1 h2)⟩
  | _ => exact q.elim⟩
theorem di_tup (he : DE X e ce) : DI X tg e (wTup ce) := PIimp (pi_tup he) fun σ H Q ⟨S, R, env, Qd, wd, er, hq, k⟩ => ⟨S, R, env, _, wd, er, hq, fun d v R1 H1 q w r => by
  cases r with
  | tup h1 h2 => exact ⟨_, rfl, ⟨_, h1.sq w.rh⟩, k _ _ R1 H1 q w (walk_tup h1 h2)⟩
  | _ => exact q.elim⟩
def rngD (n : Nat) : List D := (List.range n).map fun i => D.int (i : Nat)
def wRng (ca : CA) : CA := fun env Q => ca env fun ds => match ds with
  | [.int j] => (-1000000 < j ∧ j < 1000000) ∧ Q (rngD j.toNat)
  | _ => False
theorem walk_rng {K : PySem.W.Frag} {S : Sa} {R H : Hp} {n : Nat} : WalkD K S R H (Itr 0 n) (rngD n) := by
  have hl : (rngD n).length = n := by simp [rngD]
  refine ⟨fun xs R' H' i w hx hi => ?_, fun xs R' H' i w hx hi => ?_, fun xs R' H' i x H'' d w hx ⟨e, y⟩ hd => ?_⟩
  · rw [hl] at hi; exact hi
  · rw [hl] at hi; exact hi
  · subst e; subst y
    refine ⟨R', w.wd.refl, ?_⟩
    unfold rngD at hd
    rw [List.getElem?_map] at hd
    cases q : (List.range n)[i]? with
    | none => rw [q] at hd; cases hd
    | some j =>
      rw [q] at hd
      have hj : j = i := by
        obtain ⟨h1, h2⟩ := List.getElem?_eq_some_iff.mp q
        rw [List.getElem_range] at h2
        exact h2.symm
      cases hd
      rw [hj, Int.zero_add]
      exact .int _
theorem di_rng (hg : Gl X "range") (hm : X.mg "range" = none) (ha : DL X [e] ca) (hs : starEach [e] X.env = [(false, eval e X.env)] := by rfl) : DI X tg (.Call (.Name "range" p) [e] [] pos) (wRng ca) :=
  PIimp (pi_range1 hg hm ha hs) fun σ H Q ⟨S, R, env, Qd, wd, er, hq, k⟩ => ⟨S, R, env, _, wd, er, hq, fun ds vs R1 H1 q w r => by
    split at q
    · obtain ⟨v, rfl, r1⟩ := one_v r
      obtain rfl := int_v r1
      refine ⟨_, rfl, ?_, ?_, ?_⟩
      · have := q.1.1; omega
      · have := q.1.2; omega
      · exact k _ _ R1 H1 q.2 w walk_rng
    · exact q.elim⟩
def enumD : Nat → List D → List D
  | _, [] => []
  | i, d :: ds => .prs [.int (i : Nat), d] :: enumD (i + 1) ds
theorem enumD_get : ∀ (ds : List D) (k i : Nat), (enumD k ds)[i]? = ds[i]?.map fun d => .prs [.int ((k + i : Nat) : Int), d]
  | [], _, _ => by simp [enumD]
  | d :: ds, k, 0 => by simp [enumD]
  | d :: ds, k, i + 1 => by
    have e := enumD_get ds (k + 1) i
    simp only [enumD, List.getElem?_cons_succ]
    rw [e]
    have e2 : k + 1 + i = k + (i + 1) := by omega
    rw [e2]
theorem enumD_len (ds : List D) : ∀ k, (enumD k ds).length = ds.length := by
  induction ds with
  | nil => intro k; rfl
  | cons d ds ih => intro k; simp [enumD, ih]
def wEnum (ca : CA) : CA := fun env Q => ca env fun ds => match ds with
  | [.lst xs] => Q (enumD 0 xs)
  | _ => False
theorem walk_enum {K : PySem.W.Frag} {S : Sa} {R H : Hp} {a : Addr} {vs : List V} {ds : List D} (h1 : R a = some (.lst vs)) (h2 : RepL K S R vs ds) : WalkD K S R H (Ite K a) (enumD 0 ds) := by
  have sq : ∀ xs R' H', Wx S xs R H R' H' → SqL K H' a vs := fun xs R' H' w => .inl (w.rh _ _ (w.rr _ _ h1))
  have hl := enumD_len ds 0
  refine ⟨fun xs R' H' i w hx hi => ?_, fun xs R' H' i w hx hi => ⟨vs, sq _ _ _ w, by rw [h2.len]; omega⟩, fun xs R' H' i x H'' d w hx ⟨T, y, e1, e2, e3, e4⟩ hd => ?_⟩
  · have hi' : i < vs.length := by rw [h2.len]; omega
    exact ⟨vs, vs[i], sq _ _ _ w, by simp [hi']⟩
  · rw [enumD_get] at hd
    cases q : ds[i]? with
    | none => rw [q] at hd; cases hd
    | some d0 =>
      rw [q] at hd
      cases hd
      obtain ⟨v, q1, q2⟩ := h2.get q
      have := e4 vs (sq _ _ _ w)
      rw [q1] at this
      cases this
      subst e1 e3
      have w1 : Wx S [] R' H' R' (upd H' T (.tup [.int (i : Nat), y])) := w.wd.laid e2
      obtain ⟨n1, n2⟩ := w.wd.new_ne e2
      have rn := w.wd.new_r e2
      refine ⟨_, w1.froze upd_same e2 rn n1 n2, .prs upd_same ?_⟩
      have e0 : ((0 + i : Nat) : Int) = (i : Int) := by omega
      rw [e0]
      exact .cons (.int _) (.cons (q2.mono (w.rr.trans (Evl.Ex.new rn))) .nil)
theorem di_enum {elts : List Expr} {kk : Nat} {tpos : Pos} (hg : Gl X "enumerate") (hm : X.mg "enumerate" = none) (ha : DL X [e] ca) (hs : starEach [e] X.env = [(false, eval e X.env)] := by rfl) : DI X (.Tuple elts kk tpos) (.Call (.Name "enumerate" p) [e] [] pos) (wEnum ca) :=
  PIimp (pi_enum hg hm ha hs) fun σ H Q ⟨S, R, env, Qd, wd, er, hq, k⟩ => ⟨S, R, env, _, wd, er, hq, fun ds vs R1 H1 q w r => by
    split at q
    · obtain ⟨v, rfl, r1⟩ := one_v r
      obtain ⟨a, ws, rfl, h1, h2⟩ := lst_v r1
      exact ⟨a, ws, rfl, .inl (w.rh _ _ h1), k _ _ R1 H1 q w (walk_enum h1 h2)⟩
    · exact q.elim⟩
end

/-! ### for -/
def forW (g : CG) (cb : CS) : List D → Env → (Env → Prop) → (D → Prop) → Prop
  | [], env, Nx, _ => Nx env
  | d :: ds, env, Nx, Rt => g d env fun env1 => cb env1 (fun env2 => forW g cb ds env2 Nx Rt) Rt
def sFor (ci : CA) (g : CG) (cb : CS) : CS := fun env Nx Rt => ci env fun ds => forW g cb ds env Nx Rt
theorem own_off {K : PySem.W.Frag} {S : Sa} {R H : Hp} {σ : L2.St} {e : Env} (h : EnvR K S R H σ e) : ∀ p ∈ ownA σ e, R p = none := fun p hp => by
  obtain ⟨i, d, h1, h2⟩ := ownA_mem hp
  obtain ⟨q, h3, h4⟩ := h.ow i d h1
  rw [h2] at h3
  cases h3
  exact h4.rn
theorem for_core {K : PySem.W.Frag} {S : Sa} {R1 H1 : Hp} {env : Env} {Nx : Env → Prop} {Rt : D → Prop} {ds : List D} {J : It} {is : List Nat} {g : CG} {cb : CS} {Dn : Ends} {σ : L2.St} (w0 : Wd S R1 H1) (er1 : EnvR K S R1 H1 σ env) (wk : WalkD K S R1 H1 J ds) (hds : forW g cb ds env Nx Rt)
    (k1 : ∀ env' σ' R' H', Nx env' → Wx S (ownA σ env) R1 H1 R' H' → EnvR K S R' H' σ' env' → (∀ p ∈ ownA σ' env', p ∈ ownA σ env ∨ H1 p = none) → Dn.nx σ' H')
    (k2 : ∀ d v R' H', Rt d → Wx S (ownA σ env) R1 H1 R' H' → Rep K S R' v d → Dn.rt v H') :
    ∃ W : Nat → Nat → L2.St → Hp → Prop, (∃ m, W 0 m σ H1) ∧ ∀ i m σ H, W i m σ H →
      (J.stop i H ∧ Dn.nx σ H) ∨ (J.go i H ∧ ∃ N : L2.St → Hp → Prop, (∀ σ' H', N σ' H' → ∃ m', m' < m ∧ W (i + 1) m' σ' H') ∧ ∀ x H', J.yld i H x H' → tG K is g x σ H' fun σ2 H2 => tS K cb { Dn with nx := N, ct := N, bk := Dn.nx } σ2 H2) := by
  have oo := own_off er1
  refine ⟨fun i m σ' H' => m = ds.length - i ∧ i ≤ ds.length ∧ ∃ R' env', Wx S (ownA σ env) R1 H1 R' H' ∧ EnvR K S R' H' σ' env' ∧ (∀ p ∈ ownA σ' env', p ∈ ownA σ env ∨ H1 p = none) ∧ forW g cb (ds.drop i) env' Nx Rt,
    ⟨ds.length, by simp, Nat.zero_le _, R1, env, w0.refl, er1, fun _ h => .inl h, hds⟩, ?_⟩
  rintro i m σ' H' ⟨rfl, hi, R', env', w2, e2, o2, hf⟩
  by_cases hlt : i < ds.length
  · obtain ⟨d, hd⟩ : ∃ d, ds[i]? = some d := ⟨ds[i], by simp [hlt]⟩
    have hdrop : ds.drop i = d :: ds.drop (i + 1) := by
      rw [List.drop_eq_getElem_cons hlt]
      obtain ⟨_, e⟩ := List.getElem?_eq_some_iff.mp hd
      rw [e]
    rw [hdrop] at hf
    refine .inr ⟨wk.go _ R' H' i w2 oo hlt, fun σ3 H3 => ∃ R3 env3, Wx S (ownA σ env) R1 H1 R3 H3 ∧ EnvR K S R3 H3 σ3 env3 ∧ (∀ p ∈ ownA σ3 env3, p ∈ ownA σ env ∨ H1 p = none) ∧ forW g cb (ds.drop (i + 1)) env3 Nx Rt,
      fun σ3 H3 h3 => ⟨ds.length - (i + 1), by omega, rfl, hlt, h3⟩, fun x H'' y => ?_⟩
    obtain ⟨R'', w3, r3⟩ := wk.yld _ R' H' i x H'' d w2 oo y hd
    have w4 := w2.tr0 w3
    refine ⟨S, R'', env', d, _, w3.wd, e2.step w3, r3, hf, fun env4 ws q4 e4 o4 => ?_⟩
    have o5 : ∀ p ∈ ownA (setsV σ' is ws) env4, p ∈ ownA σ env ∨ H1 p = none := fun p hp => o2 p (o4 p hp)
    refine ⟨S, R'', env4, _, Rt, w3.wd, e4, q4, fun env5 σ5 R5 H5 q5 w5 e5 o6 => ?_, fun d v R5 H5 hd w5 r5 => ?_⟩
    · exact ⟨R5, env5, w4.trans w5 o5, e5, fun p hp => (o6 p hp).elim (o5 p) fun z => .inr (w4.hn' z), q5⟩
    · exact k2 d v R5 H5 hd (w4.trans w5 o5) r5
  · have e : i = ds.length := by omega
    subst e
    rw [List.drop_length] at hf
    exact .inl ⟨wk.stop _ R' H' _ w2 oo (Nat.le_refl _), k1 env' σ' R' H' hf w2 e2 o2⟩
theorem tFor_of {K : PySem.W.Frag} {wi : TI} {ci : CA} {is : List Nat} {g : CG} {cb : CS} {Dn : Ends} {σ : L2.St} {H : Hp} (hwi : ∀ R, tI K ci σ H R → wi σ H R) (h : tS K (sFor ci g cb) Dn σ H) : tFor wi (tG K is g) (tS K cb) Dn σ H := by
  obtain ⟨S, R, env, Nx, Rt, wd, er, hq, k1, k2⟩ := h
  refine hwi _ ⟨S, R, env, _, wd, er, hq, fun ds J R1 H1 hds w1 wk => ?_⟩
  exact for_core w1.wd (er.step w1) wk hds (fun env' σ' R' H' hn w2 e2 o2 => k1 env' σ' R' H' hn (w1.nil.tr w2) e2 fun p hp => (o2 p hp).elim .inl fun z => .inr (w1.hn' z))
    (fun d v R' H' hd w2 r2 => k2 d v R' H' hd (w1.nil.tr w2) r2)
theorem ds_for {X : Cx} {tg iter : Expr} {body : List Stmt} {ci : CA} {is : List Nat} {g : CG} {cb : CS} {pos : Pos} (hc : X.calm = true) (hi : DI X tg iter ci) (hg : DG X tg is g) (hb : DSs X body cb) (hp : PassesOwn (model X.prog X.w) X.A X.env X.xe := by exact PassesOwn.never)
    (hs : ∀ x, foldedSetIterable iter X.env x = pure x := by intro _; rfl) : DS X (.For tg iter body [] pos) (sFor ci g cb) :=
  PSimp (ps_for hp hc hi hg hb hs) fun _ _ _ h => tFor_of (fun _ z => z) h

/-! ### comprehensions -/
theorem setsV_length : ∀ (is : List Nat) (ws : List V) (σ : L2.St), (setsV σ is ws).length = σ.length
  | [], _, _ => rfl
  | _ :: _, [], _ => rfl
  | i :: is, w :: ws, σ => by show (setsV (σ.set i (some w)) is ws).length = _; rw [setsV_length is ws, List.length_set]
theorem wipe_set {i : Nat} {x : Option V} : ∀ {vs : List Nat} {σ : L2.St}, i ∈ vs → wipe (σ.set i x) vs = wipe σ vs
  | [], _, h => by cases h
  | v :: vs, σ, h => by
    show (wipe (σ.set i x) vs).set v none = (wipe σ vs).set v none
    by_cases hv : i ∈ vs
    · rw [wipe_set hv]
    · have e : i = v := by
        rcases List.mem_cons.mp h with e | h
        · exact e
        · exact absurd h hv
      subst e
      have key : ∀ {us : List Nat} {τ : L2.St}, i ∉ us → wipe (τ.set i x) us = (wipe τ us).set i x := by
        intro us
        induction us with
        | nil => intro τ _; rfl
        | cons u us ih =>
          intro τ hu
          have hu' : ¬ i = u ∧ i ∉ us := ⟨fun z => hu (by rw [z]; exact List.mem_cons_self), fun z => hu (List.mem_cons_of_mem _ z)⟩
          show (wipe (τ.set i x) us).set u none = ((wipe τ us).set u none).set i x
          rw [ih hu'.2, List.set_comm _ _ hu'.1]
      rw [key hv, List.set_set]
theorem wipe_sets : ∀ {is : List Nat} {ws : List V} {σ : L2.St} {vs : List Nat}, (∀ i ∈ is, i ∈ vs) → wipe (setsV σ is ws) vs = wipe σ vs
  | [], _, _, _, _ => rfl
  | _ :: _, [], _, _, _ => rfl
  | i :: is, w :: ws, σ, vs, h => by
    show wipe (setsV (σ.set i (some w)) is ws) vs = wipe σ vs
    rw [wipe_sets (fun j hj => h j (List.mem_cons_of_mem _ hj)), wipe_set (h i List.mem_cons_self)]
def wipeE (e : Env) : List Nat → Env
  | [] => e
  | v :: vs => ⟨(wipeE e vs).sl.set v none, match (wipeE e vs).ow with
    | some (j, o) => if j = v then none else some (j, o)
    | none => none⟩
theorem wipe_wipe {σ : L2.St} : ∀ {vs : List Nat}, wipe (wipe σ vs) vs = wipe σ vs := by
  intro vs
  have key : ∀ (us : List Nat) (τ : L2.St), (∀ u ∈ us, τ[u]? = none ∨ τ[u]? = some none) → wipe τ us = τ := by
    intro us
    induction us with
    | nil => intro τ _; rfl
    | cons u us ih =>
      intro τ h
      show (wipe τ us).set u none = τ
      rw [ih τ fun v hv => h v (List.mem_cons_of_mem _ hv)]
      refine List.ext_getElem? fun j => ?_
      by_cases hj : u = j
      · subst hj
        rcases h u List.mem_cons_self with e | e
        · rw [e, List.getElem?_eq_none (by rw [List.length_set]; exact List.getElem?_eq_none_iff.mp e)]
        · rw [List.getElem?_set_self (List.getElem?_eq_some_iff.mp e).1, e]
      · rw [List.getElem?_set_ne hj]
  refine key vs _ fun u hu => ?_
  cases e : (wipe σ vs)[u]? with
  | none => exact .inl rfl
  | some o =>
    cases o with
    | none => exact .inr rfl
    | some x => exact absurd hu (wipe_some e).2
section
variable {K : PySem.W.Frag} {S : Sa} {R H : Hp} {σ : L2.St} {e : Env}
theorem EnvR.wipe (h : EnvR K S R H σ e) : ∀ vs : List Nat, EnvR K S R H (L2.wipe σ vs) (wipeE e vs) ∧ ∀ p ∈ ownA (L2.wipe σ vs) (wipeE e vs), p ∈ ownA σ e
  | [] => ⟨h, fun _ z => z⟩
  | v :: vs => by
    obtain ⟨i1, i2⟩ := EnvR.wipe h vs
    have hw : ∀ j o, (wipeE e (v :: vs)).ow = some (j, o) → (wipeE e vs).ow = some (j, o) ∧ j ≠ v := by
      intro j o q
      unfold wipeE at q
      simp only at q
      split at q
      · rename_i j' o' z
        split at q
        · cases q
        · rename_i ne; cases q; exact ⟨z, ne⟩
      · cases q
    refine ⟨⟨?_, fun j x q => ?_, fun j o q => ?_⟩, fun p hp => ?_⟩
    · show ((wipeE e vs).sl.set v none).length = ((L2.wipe σ vs).set v none).length
      rw [List.length_set, List.length_set, i1.len]
    · have q : ((wipeE e vs).sl.set v none)[j]? = some (some x) := q
      by_cases hj : v = j
      · subst hj
        rcases Nat.lt_or_ge v (wipeE e vs).sl.length with z | z
        · rw [List.getElem?_set_self z] at q; cases q
        · rw [List.getElem?_eq_none (by rw [List.length_set]; exact z)] at q; cases q
      · rw [List.getElem?_set_ne hj] at q
        obtain ⟨w, q1, q2⟩ := i1.sl j x q
        exact ⟨w, by show ((L2.wipe σ vs).set v none)[j]? = _; rw [List.getElem?_set_ne hj]; exact q1, q2⟩
    · obtain ⟨q1, q2⟩ := hw j o q
      obtain ⟨p, q3, q4⟩ := i1.ow j o q1
      exact ⟨p, by show ((L2.wipe σ vs).set v none)[j]? = _; rw [List.getElem?_set_ne (Ne.symm q2)]; exact q3, q4⟩
    · obtain ⟨j, o, q1, q2⟩ := ownA_mem hp
      obtain ⟨q3, q4⟩ := hw j o q1
      have q2 : ((L2.wipe σ vs).set v none)[j]? = some (some (.ref p)) := q2
      rw [List.getElem?_set_ne (Ne.symm q4)] at q2
      exact i2 p (by rw [ownA_of q3 q2]; exact List.mem_singleton.mpr rfl)
end
def compW (g : CG) (ct : CB) (ce : C) (env : Env) : List D → List D → (List D → Prop) → Prop
  | [], acc, Q => Q acc
  | d :: ds, acc, Q => g d env fun env1 => ct env1 fun b => if b = true then ce env1 fun x => acc.length < 100000 ∧ compW g ct ce env ds (acc ++ [x]) Q else compW g ct ce env ds acc Q
def cComp (ci : CA) (vs : List Nat) (g : CG) (ct : CB) (ce : C) : C := fun env Q => ci env fun ds => compW g ct ce (wipeE env vs) ds [] fun acc => Q (.lst acc)
theorem comp_core {K : PySem.W.Frag} {S : Sa} {R1 H1 : Hp} {env : Env} {Qd : D → Prop} {Q : VK} {ds : List D} {J : It} {vs is : List Nat} {g : CG} {ct : CB} {ce : C} {σ : L2.St} (w0 : Wd S R1 H1) (er1 : EnvR K S R1 H1 σ env) (wk : WalkD K S R1 H1 J ds) (his : ∀ i ∈ is, i ∈ vs)
    (hds : compW g ct ce (wipeE env vs) ds [] fun acc => Qd (.lst acc))
    (k : ∀ d p R' H', Qd d → Wx S [] R1 H1 R' H' → H1 p = none → OwnR K S R' H' p d → Q (.ref p) H') : ∀ L, H1 L = none →
    ∃ W : Nat → Nat → Hp → Prop, (∃ m, W 0 m (upd H1 L (.lst []))) ∧ ∀ i m H, W i m H →
      (J.stop i H ∧ Q (.ref L) H) ∨ (J.go i H ∧ ∃ Nx : Hp → Prop, (∀ H', Nx H' → ∃ m', m' < m ∧ W (i + 1) m' H') ∧ ∀ x H', J.yld i H x H' → tG K is g x (wipe σ vs) H' fun σ2 H2 => wipe σ2 vs = wipe σ vs ∧ tT K ct σ2 H2 fun b H3 =>
        if b = true then tD K ce σ2 H3 fun y H4 => ∃ acc, H4 L = some (.lst acc) ∧ acc.length < sizeLine ∧ Nx (upd H4 L (.lst (acc ++ [y]))) else Nx H3) := by
  intro L hL
  obtain ⟨erw, ow⟩ := er1.wipe vs
  obtain ⟨n1, n2⟩ := w0.new_ne hL
  have rL := w0.new_r hL
  refine ⟨fun i m H' => m = ds.length - i ∧ i ≤ ds.length ∧ ∃ R' acc va, Wx S [] R1 H1 R' H' ∧ R' L = none ∧ H' L = some (.lst va) ∧ RepL K S R' va acc ∧ compW g ct ce (wipeE env vs) (ds.drop i) acc fun acc => Qd (.lst acc),
    ⟨ds.length, by simp, Nat.zero_le _, R1, [], [], w0.laid hL, rL, upd_same, .nil, hds⟩, ?_⟩
  rintro i m H' ⟨rfl, hi, R', acc, va, w2, r2, h2, rep2, hf⟩
  by_cases hlt : i < ds.length
  · obtain ⟨d, hd⟩ : ∃ d, ds[i]? = some d := ⟨ds[i], by simp [hlt]⟩
    have hdrop : ds.drop i = d :: ds.drop (i + 1) := by
      rw [List.drop_eq_getElem_cons hlt]
      obtain ⟨_, e⟩ := List.getElem?_eq_some_iff.mp hd
      rw [e]
    rw [hdrop] at hf
    refine .inr ⟨wk.go _ R' H' i w2 (fun _ z => nomatch z) hlt, fun H3 => ∃ R3 acc va, Wx S [] R1 H1 R3 H3 ∧ R3 L = none ∧ H3 L = some (.lst va) ∧ RepL K S R3 va acc ∧ compW g ct ce (wipeE env vs) (ds.drop (i + 1)) acc fun acc => Qd (.lst acc),
      fun H3 h3 => ⟨ds.length - (i + 1), by omega, rfl, hlt, h3⟩, fun x H'' y => ?_⟩
    obtain ⟨R'', w3, r3⟩ := wk.yld _ R' H' i x H'' d w2 (fun _ z => nomatch z) y hd
    have w13 := w2.tr w3
    refine ⟨S, R'', wipeE env vs, d, _, w3.wd, erw.step w13, r3, hf, fun env4 ws q4 e4 o4 => ⟨?_, ?_⟩⟩
    · rw [wipe_sets his, wipe_wipe]
    · refine ⟨S, R'', env4, _, w3.wd, e4, q4, fun b R5 H5 q5 w5 => ?_⟩
      have w15 := w13.tr w5
      have hL5 : H5 L = some (.lst va) := w5.hh L _ (fun z => nomatch z) n1 n2 (w3.hh L _ (fun z => nomatch z) n1 n2 h2)
      have rL5 : R5 L = none := by
        refine w5.fr L (fun z => nomatch z) ?_ (w3.fr L (fun z => nomatch z) (by rw [h2]; simp) r2)
        rw [w3.hh L _ (fun z => nomatch z) n1 n2 h2]; simp
      have rep5 := rep2.mono (w3.rr.trans w5.rr)
      cases b with
      | true =>
        have q5 : ce env4 fun x => acc.length < 100000 ∧ compW g ct ce (wipeE env vs) (ds.drop (i + 1)) (acc ++ [x]) fun acc => Qd (.lst acc) := by simpa using q5
        refine iteT ⟨S, R5, env4, _, w5.wd, e4.step w5, q5, fun z v R6 H6 q6 w6 r6 => ⟨va, w6.hh L _ (fun z => nomatch z) n1 n2 hL5, ?_, R6, acc ++ [z], va ++ [v], ?_, ?_, upd_same, (rep5.mono w6.rr).append (.cons r6 .nil), q6.2⟩⟩
        · have := rep5.len; rw [this]; exact Nat.lt_of_lt_of_le q6.1 (by decide)
        · have h6 := w6.hh L _ (fun z => nomatch z) n1 n2 hL5
          have r6 := w6.fr L (fun z => nomatch z) (by rw [hL5]; simp) rL5
          exact (w15.tr w6).trans (w6.wd.write h6 r6 n1 n2) fun p hp => .inr (by rw [List.mem_singleton.mp hp]; exact hL)
        · exact w6.fr L (fun z => nomatch z) (by rw [hL5]; simp) rL5
      | false => exact iteF ⟨R5, acc, va, w15, rL5, hL5, rep5, by simpa using q5⟩
  · have e : i = ds.length := by omega
    subst e
    rw [List.drop_length] at hf
    exact .inl ⟨wk.stop _ R' H' _ w2 (fun _ z => nomatch z) (Nat.le_refl _), k _ L R' H' hf w2 hL ⟨r2, n1, n2, _, h2, .lst rep2⟩⟩
theorem tLc_of {K : PySem.W.Frag} {wi : TI} {ci : CA} {vs is : List Nat} {g : CG} {ct : CB} {ce : C} {σ : L2.St} {H : Hp} {Q : VK} (hwi : ∀ R, tI K ci σ H R → wi σ H R) (his : ∀ i ∈ is, i ∈ vs)
    (h : tF K (cComp ci vs g ct ce) σ H Q) : tLc wi (tG K is g) (tT K ct) (tD K ce) vs σ H Q := by
  obtain ⟨S, R, env, Qd, wd, er, hq, k⟩ := h
  exact hwi _ ⟨S, R, env, _, wd, er, hq, fun ds J R1 H1 hds w1 wk => comp_core w1.wd (er.step w1) wk his hds fun d p R' H' hd w2 h0 ow => k d p R' H' hd (w1.tr w2) (w1.hn' h0) ow⟩
section
variable {X : Cx} {elt tg iter : Expr} {ifs : List Expr} {scope : Scope} {own : List (Str × Nat)} {pos : Pos} {ci : CA} {is : List Nat} {g : CG} {ct : CB} {ce : C}
abbrev DTs (X : Cx) (es : List Expr) (c : CB) : Prop := PTs X es (tT X.K c)
def bYes : CB := fun _ Q => Q true
theorem dts_nil : DTs X [] bYes := ⟨fun pins s σ H Q I ⟨S, R, env, Qd, wd, er, hq, k⟩ => pts_nil.run pins s σ H Q I (k true R H hq wd.refl)⟩
theorem dts_one {c : Expr} (h : DT X c ct) : DTs X [c] ct := pts_one h
theorem df_comp (hc : X.calm = true) (hN : X.N.Nodup) (hi : DI X tg iter ci) (ok : BlkOk X.N X.env.scope scope own)
    (hg : ∀ (s : Shared) (H : Hp) (C : Addr) (cl : List (Str × Addr)) (fp : List Addr), DG (X.blk s H scope (compEnvC scope cl C X.env) fp) tg is g) (ht : ∀ (s : Shared) (H : Hp) (C : Addr) (cl : List (Str × Addr)) (fp : List Addr), DTs (X.blk s H scope (compEnvC scope cl C X.env) fp) ifs ct)
    (he : ∀ (s : Shared) (H : Hp) (C : Addr) (cl : List (Str × Addr)) (fp : List Addr), DE (X.blk s H scope (compEnvC scope cl C X.env) fp) elt ce) (his : ∀ i ∈ is, i ∈ own.map (·.2) := by decide) (hs : ∀ x, foldedSetIterable iter X.env x = pure x := by intro _; rfl) :
    DF X (.ListComp elt [⟨tg, iter, ifs, 0⟩] scope pos) (cComp ci (own.map (·.2)) g ct ce) :=
  PEimp (pe_lc hc hN hi ok hg ht he hs) fun _ _ _ h => tLc_of (fun _ z => z) his h
/-- x = [..] on one line -/
theorem ps_comp {i : Nat} {y : Str} {py spos : Pos} (hc : X.calm = true) (hN : X.N.Nodup) (hi : DI X tg iter ci) (ok : BlkOk X.N X.env.scope scope own)
    (hg : ∀ (s : Shared) (H : Hp) (C : Addr) (cl : List (Str × Addr)) (fp : List Addr), DG (X.blk s H scope (compEnvC scope cl C X.env) fp) tg is g) (ht : ∀ (s : Shared) (H : Hp) (C : Addr) (cl : List (Str × Addr)) (fp : List Addr), DTs (X.blk s H scope (compEnvC scope cl C X.env) fp) ifs ct)
    (he : ∀ (s : Shared) (H : Hp) (C : Addr) (cl : List (Str × Addr)) (fp : List Addr), DE (X.blk s H scope (compEnvC scope cl C X.env) fp) elt ce)
    (hy : X.N[i]? = some y := by rfl) (hyl : X.env.scope.names.lookup y = some .local := by rfl) (hsw : swapsWith (.ListComp elt [⟨tg, iter, ifs, 0⟩] scope pos) (some (.Name y py)) spos.line X.env = pure true := by exact sw_true rfl rfl rfl (by decide +kernel))
    (his : ∀ i ∈ is, i ∈ own.map (·.2) := by decide) (hs : ∀ x, foldedSetIterable iter X.env x = pure x := by intro _; rfl) :
    DS X (.Assign [.Name y py] (.ListComp elt [⟨tg, iter, ifs, 0⟩] scope pos) spos) (sSet i (cComp ci (own.map (·.2)) g ct ce)) :=
  ds_of (ps_setLc hc hN hy hyl hsw hi ok hg ht he hs) (tF_of fun _ _ _ h => tLc_of (fun _ z => z) his h)
end
end E64
/-! dicts walked under a lock, what is ours, displays of dicts -/
namespace E64
open PySem PySem.Spec PyProof.Rows L2

/-! ### a dict, locked and let go -/
section
variable {K : PySem.W.Frag} {S : Sa} {xs : List Addr} {R H R' H' : Hp} {a : Addr} {u : HO} {od : Obj}
theorem Wd.lock (w : Wd S R H) (hR : R a = some u) (h : H a = some u) (hu : ∀ f o, u ≠ .frz f o := by intro _ _ z; cases z) : Wd S R (upd H a (.frz od u)) := by
  obtain ⟨n1, n2⟩ := w.nes hR
  refine ⟨⟨fun b o e => ?_, fun b f o e => ?_⟩, ?_⟩
  rotate_left
  · by_cases z : b = a
    · rw [z] at e; rw [hR] at e; cases e; exact absurd rfl (hu f o)
    · rw [upd_ne z]; exact w.rh.nf b f o e
  rotate_left
  · by_cases z : b = a
    · rw [z] at e; rw [hR] at e; cases e; exact .inr ⟨od, by rw [z, upd_same]⟩
    · rcases w.rh b o e with q | ⟨f, q⟩
      · exact .inl (by rw [upd_ne z]; exact q)
      · exact .inr ⟨f, by rw [upd_ne z]; exact q⟩
  · obtain ⟨z1, z2, cs, l, m, t, q1, q2⟩ := w.so
    exact ⟨z1, z2, cs, l, m, t, by rw [upd_ne n1.symm]; exact q1, by rw [upd_ne n2.symm]; exact q2⟩
theorem Wx.unlock (w0 : Wd S R H) (hR : R a = some u) (h : H a = some u) (hx : a ∉ xs) (w : Wx S xs R (upd H a (.frz od u)) R' H') (hu : ∀ f o, u ≠ .frz f o := by intro _ _ z; cases z) : H' a = some (.frz od u) ∧ Wx S xs R H R' (upd H' a u) := by
  obtain ⟨n1, n2⟩ := w0.nes hR
  have hl := w.hh a _ hx n1 n2 upd_same
  refine ⟨hl, w.rr, ⟨fun b o e => ?_, fun b f o e => ?_⟩, fun b o h1 h2 h3 h4 => ?_, fun b e => ?_, fun b h1 h2 h3 => ?_, ?_⟩
  rotate_left
  · by_cases z : b = a
    · rw [z] at e; rw [w.rr a u hR] at e; cases e; exact absurd rfl (hu f o)
    · rw [upd_ne z]; exact w.rh.nf b f o e
  rotate_left 4
  · by_cases z : b = a
    · rw [z] at e; rw [w.rr a u hR] at e; cases e; exact .inl (by rw [z, upd_same])
    · rcases w.rh b o e with q | ⟨f, q⟩
      · exact .inl (by rw [upd_ne z]; exact q)
      · exact .inr ⟨f, by rw [upd_ne z]; exact q⟩
  · by_cases z : b = a
    · rw [z] at h4; rw [h] at h4; cases h4; rw [z, upd_same]
    · rw [upd_ne z]; exact w.hh b o h1 h2 h3 (by rw [upd_ne z]; exact h4)
  · by_cases z : b = a
    · rw [z, upd_same]; simp
    · rw [upd_ne z]; exact w.hn b (by rw [upd_ne z]; exact e)
  · by_cases z : b = a
    · rw [z] at h3; rw [hR] at h3; cases h3
    · exact w.fr b h1 (by rw [upd_ne z]; exact h2) h3
  · obtain ⟨z1, z2, cs, l, m, t, q1, q2⟩ := w.so
    exact ⟨z1, z2, cs, l, m, t, by rw [upd_ne n1.symm]; exact q1, by rw [upd_ne n2.symm]; exact q2⟩
/-- slots over heaps that differ where something is frozen -/
theorem EnvR.other {σ : L2.St} {e : Env} {H2 : Hp} (h : EnvR K S R H σ e) (k : ∀ b o, R b = none → H b = some o → H2 b = some o) : EnvR K S R H2 σ e :=
  ⟨h.len, h.sl, fun i d q => let ⟨p, a, b⟩ := h.ow i d q; ⟨p, a, b.rn, b.n1, b.n2, let ⟨o, x, y⟩ := b.ob; ⟨o, k p o b.rn x, y⟩⟩⟩
theorem EnvR.lock {σ : L2.St} {e : Env} (h : EnvR K S R H σ e) (hR : R a = some u) : EnvR K S R (upd H a (.frz od u)) σ e := h.other fun b o r q => by
  rw [upd_ne (fun z => by rw [z, hR] at r; cases r)]; exact q
theorem EnvR.unlock {σ : L2.St} {e : Env} (h : EnvR K S R H σ e) (hR : R a = some u) : EnvR K S R (upd H a u) σ e := h.other fun b o r q => by
  rw [upd_ne (fun z => by rw [z, hR] at r; cases r)]; exact q
theorem Rx.cases (r : Rx R H) (hR : R a = some u) : H a = some u ∨ ∃ f, H a = some (.frz f u) := r a u hR
end
/-- a way to a dict that asks nothing of the heap -/
def PathD (K : PySem.W.Frag) (te : TE) (c : C) : Prop := ∀ S R H σ env Qd, Wd S R H → EnvR K S R H σ env → c env Qd →
  ∃ a ws kvs, R a = some (.dK ws) ∧ RepK K S R ws kvs ∧ Qd (.dct kvs) ∧ ∀ H' (Q : VK), Rx R H' → Q (.ref a) H' → te σ H' Q
def cPv (i : Nat) : C := fun env Q => ∃ kvs, env.sl[i]? = some (some (.dct kvs)) ∧ Q (.dct kvs)
def cPk (i : Nat) (k : Str) : C := fun env Q => ∃ kv0 kvs, env.sl[i]? = some (some (.dct kv0)) ∧ lk k kv0 = some (.dct kvs) ∧ Q (.dct kvs)
theorem path_v {K : PySem.W.Frag} {i : Nat} : PathD K (tVar i) (cPv i) := by
  intro S R H σ env Qd wd er ⟨kvs, e, q⟩
  obtain ⟨v, hv, r⟩ := er.sl i _ e
  obtain ⟨a, ws, rfl, h1, h2⟩ := dct_v r
  exact ⟨a, ws, kvs, h1, h2, q, fun H' Q _ h => ⟨_, hv, h⟩⟩
theorem path_k {K : PySem.W.Frag} {i : Nat} {k : Str} : PathD K (tDGet (tVar i) (tC (.str k))) (cPk i k) := by
  intro S R H σ env Qd wd er ⟨kv0, kvs, e, e2, q⟩
  obtain ⟨v, hv, r⟩ := er.sl i _ e
  obtain ⟨a0, ws0, rfl, h1, h2⟩ := dct_v r
  obtain ⟨w, e3, r2⟩ := (h2.lk).2 _ e2
  obtain ⟨a, ws, rfl, h3, h4⟩ := dct_v r2
  refine ⟨a, ws, kvs, h3, h4, q, fun H' Q rx h => ⟨_, hv, a0, _, rfl, ?_, h⟩⟩
  rw [← e3]
  exact DGet_of (rx _ _ h1)
/-! ### for k in d -/
def wKeys (cp : C) : CA := fun env Q => cp env fun d => match d with
  | .dct kvs => Q (kvs.map fun p => .str p.1)
  | _ => False
theorem RepK.get {K : PySem.W.Frag} {S : Sa} {R : Hp} : ∀ {ws : List (Key × V)} {kvs : List (Str × D)} {i : Nat} {k : Key} {v : V}, RepK K S R ws kvs → ws[i]? = some (k, v) → ∃ k' d, kvs[i]? = some (k', d) ∧ k = .inr k' ∧ Rep K S R v d
  | _, _, _, _, _, .nil, e => by simp at e
  | _, _, 0, _, _, .cons (k := k') (d := d) h _, e => by simp at e; obtain ⟨e1, e2⟩ := e; subst e1; subst e2; exact ⟨k', d, rfl, rfl, h⟩
  | _, _, i + 1, _, _, .cons _ r, e => by
    obtain ⟨k', d, h1, h2, h3⟩ := RepK.get (i := i) r (by simpa using e)
    exact ⟨k', d, by simpa using h1, h2, h3⟩
theorem walk_keys {K : PySem.W.Frag} {S : Sa} {R H : Hp} {a : Addr} {od : Obj} {ws : List (Key × V)} {kvs : List (Str × D)} (w0 : Wd S R H) (h1 : R a = some (.dK ws)) (h2 : RepK K S R ws kvs) (hf : H a = some (.frz od (.dK ws))) : WalkD K S R H (Itk a od ws) (kvs.map fun p => .str p.1) := by
  obtain ⟨n1, n2⟩ := w0.nes h1
  have fz : ∀ xs R' H', Wx S xs R H R' H' → (∀ b ∈ xs, R b = none) → H' a = some (.frz od (.dK ws)) := fun xs R' H' w hx => w.hh a _ (fun z => by rw [hx a z] at h1; cases h1) n1 n2 hf
  have hl := h2.len
  refine ⟨fun xs R' H' i w hx hi => ⟨fz _ _ _ w hx, by rw [List.length_map] at hi; omega⟩, fun xs R' H' i w hx hi => ⟨fz _ _ _ w hx, by rw [List.length_map] at hi; omega⟩, fun xs R' H' i x H'' d w hx ⟨e, k, v, y1, y2⟩ hd => ?_⟩
  subst e
  refine ⟨R', w.wd.refl, ?_⟩
  obtain ⟨k', d', e1, e2, _⟩ := h2.get y1
  rw [List.getElem?_map, e1] at hd
  cases hd
  rw [y2, e2]
  exact .str _
theorem sForK_of {K : PySem.W.Frag} {te : TE} {cp : C} {is : List Nat} {g : CG} {cb : CS} {Dn : Ends} {σ : L2.St} {H : Hp} (hp : PathD K te cp) (h : tS K (sFor (wKeys cp) g cb) Dn σ H) : tLock (tFor (iKeys te) (tG K is g) (tS K cb)) Dn σ H ∨ tFor (iKeys te) (tG K is g) (tS K cb) Dn σ H := by
  obtain ⟨S, R, env, Nx, Rt, wd, er, hq, k1, k2⟩ := h
  obtain ⟨a, ws, kvs, hR, rk, hf, ht⟩ := hp S R H σ env _ wd er hq
  have hx : a ∉ ownA σ env := fun z => by rw [own_off er a z] at hR; cases hR
  rcases wd.rh.cases hR with e | ⟨f, e⟩
  · refine .inl ⟨a, _, e, trivial, fun od => ?_⟩
    have wl := wd.lock (od := od) hR e
    have el := er.lock (od := od) hR
    refine ht _ _ wl.rh ⟨a, od, rfl, .inl ⟨ws, upd_same, ?_⟩⟩
    refine for_core wl el (walk_keys wl hR rk upd_same) hf (fun env' σ' R' H' hn w e' o' => ?_) (fun d v R' H' hd w r => ?_)
    · obtain ⟨l1, w2⟩ := Wx.unlock wd hR e hx w
      exact ⟨l1, k1 env' σ' R' _ hn w2 (e'.unlock (w.rr _ _ hR)) fun p hp => (o' p hp).elim .inl fun z => by
        by_cases q : p = a
        · rw [q] at hp; have := own_off e' a hp; rw [w.rr _ _ hR] at this; cases this
        · rw [upd_ne q] at z; exact .inr z⟩
    · obtain ⟨l1, w2⟩ := Wx.unlock wd hR e hx w
      exact ⟨l1, k2 d v R' _ hd w2 r⟩
  · refine .inr (ht _ _ wd.rh ⟨a, f, rfl, .inl ⟨ws, e, ?_⟩⟩)
    exact for_core wd er (walk_keys wd hR rk e) hf k1 k2
theorem PSor {X : Cx} {st : Stmt} {t t' : TS} (h : PS X st t) (h' : PS X st t') : PS X st (fun Dn σ H => t Dn σ H ∨ t' Dn σ H) := ⟨fun pins s σ H Q I q => q.elim (h.run pins s σ H Q I) (h'.run pins s σ H Q I)⟩
theorem PEor {X : Cx} {e : Expr} {t t' : TE} (h : PE X e t) (h' : PE X e t') : PE X e (fun σ H Q => t σ H Q ∨ t' σ H Q) := ⟨fun pins s σ H Q I q => q.elim (h.run pins s σ H Q I) (h'.run pins s σ H Q I)⟩
theorem ds_forK {X : Cx} {tg iter : Expr} {body : List Stmt} {te : TE} {cp : C} {is : List Nat} {g : CG} {cb : CS} {pos : Pos} (hc : X.calm = true) (hi : PE X iter te) (hpt : PathD X.K te cp) (hg : DG X tg is g) (hb : DSs X body cb) (hp : PassesOwn (model X.prog X.w) X.A X.env X.xe := by exact PassesOwn.never)
    (hs : ∀ x, foldedSetIterable iter X.env x = pure x := by intro _; rfl) : DS X (.For tg iter body [] pos) (sFor (wKeys cp) g cb) :=
  PSimp (PSor (ps_lock (ps_for hp hc (pi_keys hi) hg hb hs)) (ps_for hp hc (pi_keys hi) hg hb hs)) fun _ _ _ h => sForK_of hpt h
theorem cCompK_of {K : PySem.W.Frag} {te : TE} {cp : C} {vs is : List Nat} {g : CG} {ct : CB} {ce : C} {σ : L2.St} {H : Hp} {Q : VK} (hp : PathD K te cp) (his : ∀ i ∈ is, i ∈ vs) (h : tF K (cComp (wKeys cp) vs g ct ce) σ H Q) :
    tLockE (tLc (iKeys te) (tG K is g) (tT K ct) (tD K ce) vs) σ H Q ∨ tLc (iKeys te) (tG K is g) (tT K ct) (tD K ce) vs σ H Q := by
  obtain ⟨S, R, env, Qd, wd, er, hq, k⟩ := h
  obtain ⟨a, ws, kvs, hR, rk, hf, ht⟩ := hp S R H σ env _ wd er hq
  rcases wd.rh.cases hR with e | ⟨f, e⟩
  · refine .inl ⟨a, _, e, trivial, fun od => ?_⟩
    have wl := wd.lock (od := od) hR e
    have el := er.lock (od := od) hR
    refine ht _ _ wl.rh ⟨a, od, rfl, .inl ⟨ws, upd_same, ?_⟩⟩
    refine comp_core (Qd := Qd) (Q := fun v H' => H' a = some (.frz od (.dK ws)) ∧ Q v (upd H' a (.dK ws))) wl el (walk_keys wl hR rk upd_same) his hf fun d p R' H' hd w h0 ow => ?_
    obtain ⟨l1, w2⟩ := Wx.unlock (xs := []) wd hR e (fun z => nomatch z) w
    have hpa : p ≠ a := fun z => by rw [z, upd_same] at h0; cases h0
    refine ⟨l1, k d p R' _ hd w2 (by rw [upd_ne hpa] at h0; exact h0) ⟨ow.rn, ow.n1, ow.n2, ?_⟩⟩
    obtain ⟨o, x, y⟩ := ow.ob
    exact ⟨o, by rw [upd_ne hpa]; exact x, y⟩
  · refine .inr (ht _ _ wd.rh ⟨a, f, rfl, .inl ⟨ws, e, ?_⟩⟩)
    exact comp_core (Qd := Qd) wd er (walk_keys wd hR rk e) his hf k
theorem df_compK {X : Cx} {elt tg iter : Expr} {ifs : List Expr} {scope : Scope} {own : List (Str × Nat)} {pos : Pos} {te : TE} {cp : C} {is : List Nat} {g : CG} {ct : CB} {ce : C} (hc : X.calm = true) (hN : X.N.Nodup) (hi : PE X iter te) (hpt : PathD X.K te cp) (ok : BlkOk X.N X.env.scope scope own)
    (hg : ∀ (s : Shared) (H : Hp) (C : Addr) (cl : List (Str × Addr)) (fp : List Addr), DG (X.blk s H scope (compEnvC scope cl C X.env) fp) tg is g) (ht : ∀ (s : Shared) (H : Hp) (C : Addr) (cl : List (Str × Addr)) (fp : List Addr), DTs (X.blk s H scope (compEnvC scope cl C X.env) fp) ifs ct)
    (he : ∀ (s : Shared) (H : Hp) (C : Addr) (cl : List (Str × Addr)) (fp : List Addr), DE (X.blk s H scope (compEnvC scope cl C X.env) fp) elt ce) (his : ∀ i ∈ is, i ∈ own.map (·.2) := by decide) (hs : ∀ x, foldedSetIterable iter X.env x = pure x := by intro _; rfl) :
    DF X (.ListComp elt [⟨tg, iter, ifs, 0⟩] scope pos) (cComp (wKeys cp) (own.map (·.2)) g ct ce) :=
  PEimp (PEor (pe_lock (pe_lc hc hN (pi_keys hi) ok hg ht he hs)) (pe_lc hc hN (pi_keys hi) ok hg ht he hs)) fun _ _ _ h => cCompK_of hpt his h

/-! ### what is ours: read, written -/
section
variable {X : Cx} {pos : Pos} {o i e v : Expr} {ck cv ce : C} {apos cpos tpos : Pos}
/-- tuple(x), x a list of ours -/
def cTupO (i : Nat) : C := fun env Q => ∃ ds, env.ow = some (i, .lst ds) ∧ Q (.tup ds)
theorem own_lst {K : PySem.W.Frag} {S : Sa} {R H : Hp} {p : Addr} {ds : List D} (h : OwnR K S R H p (.lst ds)) : ∃ vs, H p = some (.lst vs) ∧ RepL K S R vs ds := by
  obtain ⟨o, h1, h2⟩ := h.ob
  cases h2 with | lst r => exact ⟨_, h1, r⟩
theorem own_dct {K : PySem.W.Frag} {S : Sa} {R H : Hp} {p : Addr} {ds : List (Str × D)} (h : OwnR K S R H p (.dct ds)) : ∃ vs, H p = some (.dK vs) ∧ RepK K S R vs ds := by
  obtain ⟨o, h1, h2⟩ := h.ob
  cases h2 with | dct r => exact ⟨_, h1, r⟩
theorem de_tupO {p : Pos} {j : Nat} (hg : Gl X "tuple") (hm : X.mg "tuple" = none) (h : PE X e (tVar j)) (he : starEach [e] X.env = (false, eval e X.env) :: starEach [] X.env := by rfl) : DE X (.Call (.Name "tuple" p) [e] [] pos) (cTupO j) :=
  PEimp (pe_callTy call_tuple_ofP hg hm (by decide +kernel) (pa_cons h pa_nil he) (by decide) (by decide) he rfl) fun σ H Q ⟨S, R, env, Qd, wd, er, ⟨ds, ho, hq⟩, k⟩ => by
    obtain ⟨p, hp, ow⟩ := er.ow j _ ho
    obtain ⟨vs, h1, r⟩ := own_lst ow
    exact ⟨_, hp, p, vs, rfl, .inl ⟨.inl (.inl h1), fun l o ho hl => done_tup wd k hq r ho hl⟩⟩
/-- x[k], x a dict of ours -/
def cGetO (j : Nat) (ck : C) : C := fun env Q => ∃ kvs, env.ow = some (j, .dct kvs) ∧ ck env fun y => ∃ k d, y = .str k ∧ lk k kvs = some d ∧ Q d
theorem de_getO {j : Nat} (hu : X.A.units + 1 < cLine) (ho : PE X o (tVar j)) (hi : DE X i ck) (hs : NoSl i := by exact fun _ _ => rfl) : DE X (.Subscript o i pos) (cGetO j ck) :=
  PEimp (pe_dget hu ho hi hs) fun σ H Q ⟨S, R, env, Qd, wd, er, ⟨kvs, hw, hq⟩, k⟩ => by
    obtain ⟨p, hp, ow⟩ := er.ow j _ hw
    refine ⟨_, hp, S, R, env, _, wd, er, hq, fun y u R1 H1 ⟨kk, d, e1, e2, q⟩ w r => ?_⟩
    subst e1
    obtain rfl := str_v r
    obtain ⟨vs, h1, r1⟩ := own_dct (ow.step w (fun z => nomatch z))
    obtain ⟨v, e3, r2⟩ := (r1.lk).2 _ e2
    exact ⟨p, v, rfl, by rw [← e3]; exact DGet_of (.inl h1), k d v R1 H1 q w r2⟩
/-- x.append(e) -/
def sApp (j : Nat) (ce : C) : CS := fun env Nx _ => ∃ ds, env.ow = some (j, .lst ds) ∧ ce env fun d => ds.length < 100000 ∧ Nx ⟨env.sl, some (j, .lst (ds ++ [d]))⟩
theorem own_up {K : PySem.W.Frag} {S : Sa} {R H : Hp} {σ : L2.St} {env : Env} {j : Nat} {p : Addr} {d d' : D} {ob : HO} (er : EnvR K S R H σ env) (hw : env.ow = some (j, d)) (hp : σ[j]? = some (some (.ref p))) (ow : OwnR K S R H p d) (no : OwnO K S R ob d') :
    EnvR K S R (upd H p ob) σ ⟨env.sl, some (j, d')⟩ ∧ ∀ q ∈ ownA σ ⟨env.sl, some (j, d')⟩, q ∈ ownA σ env := by
  refine ⟨⟨er.len, er.sl, fun i x e => ?_⟩, fun q hq => ?_⟩
  · have e : some (j, d') = some (i, x) := e
    cases e
    exact ⟨p, hp, ow.rn, ow.n1, ow.n2, _, upd_same, no⟩
  · rw [ownA_of (i := j) (d := d') rfl hp] at hq
    rw [ownA_of hw hp]
    exact hq
theorem ds_app {j : Nat} (ho : PE X o (tVar j)) (he : DE X e ce) (hbase : attributeBase o "append" X.env (eval o X.env) = eval o X.env := by rfl)
    (hfew : ((backTo cpos (starEach [e] X.env)).all (fun x => !x.1) && (backToKw cpos (keywordEach [] X.env)).all (fun x => x.1.isSome)
      && decide (([e] : List Expr).length + ([] : List Keyword).length + (if ([] : List Keyword).isEmpty then 0 else 1) < 30)) = true := by rfl)
    (hline : (apos.endLine == cpos.line) = true := by rfl) (hs : starEach [e] X.env = (false, eval e X.env) :: starEach [] X.env := by rfl) (hplain : (backTo cpos (starEach [] X.env)).any (·.1) = false := by rfl)
    (hsw : swapsWith (.Call (.Attribute o "append" apos) [e] [] cpos) none pos.line X.env = pure false := by rfl) : DS X (.Expr (.Call (.Attribute o "append" apos) [e] [] cpos) pos) (sApp j ce) :=
  PSimp (ps_expr (pe_bm PySem.F.plainAttrs_list PySem.F.slot_list_append PySem.F.type_list_append mt_append ho (pa_cons he pa_nil hs) hbase hfew hline hs hplain) hsw) fun Dn σ H ⟨S, R, env, Nx, Rt, wd, er, ⟨ds, hw, hq⟩, k1, k2⟩ => by
    obtain ⟨p, hp, ow⟩ := er.ow j _ hw
    obtain ⟨vs, h1, r⟩ := own_lst ow
    refine ⟨_, hp, .inl ⟨rfl, _, .inl (.inl h1)⟩, S, R, env, _, wd, er, hq, fun d v R1 H1 q w r1 => ?_⟩
    have ow1 := ow.step w (fun z => nomatch z)
    obtain ⟨vs1, h2, r2⟩ := own_lst ow1
    have hl := r2.len
    obtain ⟨e1, o1⟩ := own_up (er.step w) hw hp ow1 (.lst (r2.append (.cons r1 .nil)))
    refine ⟨p, vs1, v, rfl, rfl, h2, by rw [hl]; exact Nat.lt_of_lt_of_le q.1 (by decide), ?_⟩
    exact k1 _ _ R1 _ q.2 (w.nil.tr ((w.wd.write h2 ow1.rn ow1.n1 ow1.n2).mono fun z hz => by rw [ownA_of hw hp]; exact hz)) e1 fun z hz => .inl (o1 z hz)
def putD (kvs : List (Str × D)) (k : Str) (v : D) : List (Str × D) :=
  if (kvs.any fun kv => decide (kv.1 = k)) = true then kvs.map (fun kv => if kv.1 = k then (kv.1, v) else kv) else kvs ++ [(k, v)]
theorem RepK.any {K : PySem.W.Frag} {S : Sa} {R : Hp} {k : Str} : ∀ {ws : List (Key × V)} {kvs : List (Str × D)}, RepK K S R ws kvs → (ws.any fun kv => decide (kv.1 = .inr k)) = kvs.any fun kv => decide (kv.1 = k)
  | _, _, .nil => rfl
  | _, _, .cons (k := k') h r => by
    rw [List.any_cons, List.any_cons, RepK.any r]
    have : decide ((Sum.inr k' : Key) = .inr k) = decide (k' = k) := by
      by_cases e : k' = k
      · subst e; simp
      · rw [decide_eq_false e, decide_eq_false (fun z => e (Sum.inr.inj z))]
    rw [this]
theorem RepK.repl {K : PySem.W.Frag} {S : Sa} {R : Hp} {k : Str} {v : V} {d : D} (q : Rep K S R v d) : ∀ {ws : List (Key × V)} {kvs : List (Str × D)}, RepK K S R ws kvs → RepK K S R (ws.map fun kv => if kv.1 = .inr k then (kv.1, v) else kv) (kvs.map fun kv => if kv.1 = k then (kv.1, d) else kv)
  | _, _, .nil => .nil
  | _, _, .cons (k := k') h r => by
    rw [List.map_cons, List.map_cons]
    by_cases e : k' = k
    · subst e
      rw [if_pos rfl, if_pos rfl]
      exact .cons q (RepK.repl q r)
    · rw [if_neg e, if_neg (fun z => e (Sum.inr.inj z))]
      exact .cons h (RepK.repl q r)
theorem RepK.append {K : PySem.W.Frag} {S : Sa} {R : Hp} : ∀ {ws vs : List (Key × V)} {kvs ls : List (Str × D)}, RepK K S R ws kvs → RepK K S R vs ls → RepK K S R (ws ++ vs) (kvs ++ ls)
  | _, _, _, _, .nil, s => s
  | _, _, _, _, .cons h r, s => .cons h (RepK.append r s)
theorem RepK.put {K : PySem.W.Frag} {S : Sa} {R : Hp} {k : Str} {v : V} {d : D} {ws : List (Key × V)} {kvs : List (Str × D)} (r : RepK K S R ws kvs) (q : Rep K S R v d) : RepK K S R (putK ws (.inr k) v) (putD kvs k d) := by
  unfold putK putD
  rw [r.any]
  split
  · exact r.repl q
  · exact r.append (.cons q .nil)
/-- x[k] = v, x a dict of ours -/
def sPut (j : Nat) (ck cv : C) : CS := fun env Nx _ => ∃ kvs, env.ow = some (j, .dct kvs) ∧ cv env fun v => ck env fun y => ∃ k, y = .str k ∧ kvs.length < 100000 ∧ Nx ⟨env.sl, some (j, .dct (putD kvs k v))⟩
theorem ds_put {j : Nat} (hu : X.A.units + 1 < cLine) (ho : PE X o (tVar j)) (hi : DE X i ck) (hv : DE X v cv) (hs : swapsWith v (some (.Subscript o i tpos)) pos.line X.env = pure false := by rfl) : DS X (.Assign [.Subscript o i tpos] v pos) (sPut j ck cv) :=
  PSimp (ps_dput hu ho hi hv hs) fun Dn σ H ⟨S, R, env, Nx, Rt, wd, er, ⟨kvs, hw, hq⟩, k1, k2⟩ => by
    obtain ⟨p, hp, ow⟩ := er.ow j _ hw
    refine ⟨S, R, env, _, wd, er, hq, fun d v R1 H1 q w r => ⟨_, hp, S, R1, env, _, w.wd, er.step w, q, fun y u R2 H2 ⟨k, ey, hl, hn⟩ w2 r2 => ?_⟩⟩
    subst ey
    obtain rfl := str_v r2
    have w12 := w.tr w2
    have ow1 := ow.step w12 (fun z => nomatch z)
    obtain ⟨vs1, h2, r3⟩ := own_dct ow1
    obtain ⟨e1, o1⟩ := own_up ((er.step w).step w2) hw hp ow1 (.dct (r3.put (k := k) (r.mono w2.rr)))
    refine ⟨p, _, rfl, .inl ⟨vs1, .inr k, h2, rfl, ?_, rfl⟩, ?_⟩
    · rw [r3.len]; exact Nat.lt_of_lt_of_le hl (by decide)
    · exact k1 _ _ R2 _ hn (w12.nil.tr ((w12.wd.write h2 ow1.rn ow1.n1 ow1.n2).mono fun z hz => by rw [ownA_of hw hp]; exact hz)) e1 fun z hz => .inl (o1 z hz)
/-- x[k] -= v, x a dict of ours -/
def sSubO (j : Nat) (ck cv : C) : CS := fun env Nx _ => ∃ kvs, env.ow = some (j, .dct kvs) ∧ ck env fun y => ∃ k i, y = .str k ∧ lk k kvs = some (.int i) ∧ cv env fun z => ∃ n, z = .int n ∧ kvs.length < 100000 ∧ Nx ⟨env.sl, some (j, .dct (putD kvs k (.int (i - n))))⟩
theorem ds_subO {j : Nat} (hu : X.A.units + 1 < cLine) (ho : PE X o (tVar j)) (hi : DE X i ck) (hv : DE X v cv)
    (ha : ∀ ov iv new, augStore i ov iv new = (do holding [new, ov, iv] (setItem ov iv new); release [new, ov, iv] []; pure .next) := by intros; rfl) : DS X (.AugAssign (.Subscript o i tpos) .Sub v pos) (sSubO j ck cv) :=
  PSimp (ps_daug hu ho hi hv in_sub ha) fun Dn σ H ⟨S, R, env, Nx, Rt, wd, er, ⟨kvs, hw, hq⟩, k1, k2⟩ => by
    obtain ⟨p, hp, ow⟩ := er.ow j _ hw
    refine ⟨_, hp, S, R, env, _, wd, er, hq, fun y u R1 H1 ⟨k, i, ey, el, hq1⟩ w r => ?_⟩
    subst ey
    obtain rfl := str_v r
    have ow1 := ow.step w (fun z => nomatch z)
    obtain ⟨vs1, h1, r1⟩ := own_dct ow1
    obtain ⟨v0, e3, r2⟩ := (r1.lk).2 _ el
    obtain rfl := int_v r2
    refine ⟨p, _, rfl, by rw [← e3]; exact DGet_of (.inl h1), S, R1, env, _, w.wd, er.step w, hq1, fun z t R2 H2 ⟨n, ez, hl, hn⟩ w2 r4 => ?_⟩
    subst ez
    obtain rfl := int_v r4
    have w12 := w.tr w2
    have ow2 := ow.step w12 (fun z => nomatch z)
    obtain ⟨vs2, h2, r5⟩ := own_dct ow2
    obtain ⟨e1, o1⟩ := own_up ((er.step w).step w2) hw hp ow2 (.dct (r5.put (k := k) (.int (i - n))))
    refine ⟨_, _, rfl, rfl, _, .inl ⟨vs2, .inr k, h2, rfl, ?_, rfl⟩, ?_⟩
    · rw [r5.len]; exact Nat.lt_of_lt_of_le hl (by decide)
    · exact k1 _ _ R2 _ hn (w12.nil.tr ((w12.wd.write h2 ow2.rn ow2.n1 ow2.n2).mono fun z hz => by rw [ownA_of hw hp]; exact hz)) e1 fun z hz => .inl (o1 z hz)
end
/-- later pairs win -/
def mergeD (kvs more : List (Str × D)) : List (Str × D) := more.foldl (fun acc kv => putD acc kv.1 kv.2) kvs
theorem RepK.merge {K : PySem.W.Frag} {S : Sa} {R : Hp} : ∀ {vs : List (Key × V)} {ls : List (Str × D)} {ws : List (Key × V)} {kvs : List (Str × D)}, RepK K S R ws kvs → RepK K S R vs ls → RepK K S R (mergeK ws vs) (mergeD kvs ls)
  | _, _, _, _, h, .nil => h
  | _, _, _, _, h, .cons (ws := vs') (kvs := ls') q r => RepK.merge (vs := vs') (ls := ls') (h.put q) r
/-- x.update(y) -/
def rUpdate : V → List V → Hp → VK → Prop := fun x vs H Q => ∃ d o ks ms, x = .ref d ∧ vs = [.ref o] ∧ H d = some (.dK ks) ∧ Rd H o (.dK ms) ∧ d ≠ o ∧ ks.length + ms.length ≤ sizeLine ∧ Q .non (upd H d (.dK (mergeK ks ms)))
theorem mt_update {X : Cx} : MtM X "dict.update" rUpdate := by
  intro pins s σ H x vs v us Q I rx rv h
  obtain ⟨d, o, ks, ms, rfl, rfl, hd, ho, ne, hz, q⟩ := h
  cases rx
  obtain ⟨u, rfl, ru⟩ := rv.one
  cases ru
  obtain ⟨z1, s1, ws1, r1, d1⟩ := dk_of I.hok hd
  obtain ⟨z2, s2, ws2, r2, d2⟩ := dk_rd I.hok ho
  have l1 := r1.length
  have l2 := r2.length
  refine call_meetsIn PySem.F.slot_dict_update d1.typeIs PySem.F.entry_dict_update (PySem.F.args_dict_update_2 _ _) (meets_dict_update (mixKind X.prog X.w) d o ne s2) ⟨ws1, ws2, d1, d2, by omega, fun h' e1 e2 sb => ?_⟩
  refine ⟨.non, _, I.write (t' := s.toks) (x := d) (e := d) (by rw [hd]; exact trivial) (.inl rfl) (fun b u hb e => (sb.2 b hb).trans e) (let ⟨o, _, _, e, _⟩ := e1; ⟨o, e⟩) (dk_new ?_ s1 (r2.merge r1) e1), rfl, q⟩
  have := length_mergeK ms ks
  omega
end E64
/-! displays of dicts, dict(..), list(..), comprehensions of dicts -/
namespace E64
open PySem PySem.Spec PyProof.Rows L2
section
variable {X : Cx} {pos : Pos} {o i e v f : Expr} {ck cv ce cd cx : C} {apos cpos tpos : Pos}
/-- x.update(y), x ours -/
def sUpd (j : Nat) (ce : C) : CS := fun env Nx _ => ∃ kvs, env.ow = some (j, .dct kvs) ∧ ce env fun d => ∃ ms, d = .dct ms ∧ kvs.length + ms.length ≤ 100000 ∧ Nx ⟨env.sl, some (j, .dct (mergeD kvs ms))⟩
theorem ds_upd {j : Nat} (ho : PE X o (tVar j)) (he : DE X e ce) (hbase : attributeBase o "update" X.env (eval o X.env) = eval o X.env := by rfl)
    (hfew : ((backTo cpos (starEach [e] X.env)).all (fun x => !x.1) && (backToKw cpos (keywordEach [] X.env)).all (fun x => x.1.isSome)
      && decide (([e] : List Expr).length + ([] : List Keyword).length + (if ([] : List Keyword).isEmpty then 0 else 1) < 30)) = true := by rfl)
    (hline : (apos.endLine == cpos.line) = true := by rfl) (hs : starEach [e] X.env = (false, eval e X.env) :: starEach [] X.env := by rfl) (hplain : (backTo cpos (starEach [] X.env)).any (·.1) = false := by rfl)
    (hsw : swapsWith (.Call (.Attribute o "update" apos) [e] [] cpos) none pos.line X.env = pure false := by rfl) : DS X (.Expr (.Call (.Attribute o "update" apos) [e] [] cpos) pos) (sUpd j ce) :=
  PSimp (ps_expr (pe_bm PySem.F.plainAttrs_dict PySem.F.slot_dict_update PySem.F.type_dict_update mt_update ho (pa_cons he pa_nil hs) hbase hfew hline hs hplain) hsw) fun Dn σ H ⟨S, R, env, Nx, Rt, wd, er, ⟨kvs, hw, hq⟩, k1, k2⟩ => by
    obtain ⟨p, hp, ow⟩ := er.ow j _ hw
    obtain ⟨vs, h1, r⟩ := own_dct ow
    refine ⟨_, hp, .inr (.inr (.inl ⟨rfl, .inl ⟨_, h1⟩⟩)), S, R, env, _, wd, er, hq, fun d v R1 H1 ⟨ms, ed, hl, hn⟩ w r1 => ?_⟩
    subst ed
    obtain ⟨a, ws, rfl, h2, r2⟩ := dct_v r1
    have ow1 := ow.step w (fun z => nomatch z)
    obtain ⟨vs1, h3, r3⟩ := own_dct ow1
    have l1 := r2.len
    have l2 := r3.len
    obtain ⟨e1, o1⟩ := own_up (er.step w) hw hp ow1 (.dct (r3.merge r2))
    have ne : p ≠ a := fun z => by rw [z] at ow1; rw [ow1.rn] at h2; cases h2
    refine ⟨p, a, vs1, ws, rfl, rfl, h3, w.rh _ _ h2, ne, line_of (by omega), ?_⟩
    exact k1 _ _ R1 _ hn (w.nil.tr ((w.wd.write h3 ow1.rn ow1.n1 ow1.n2).mono fun z hz => by rw [ownA_of hw hp]; exact hz)) e1 fun z hz => .inl (o1 z hz)

/-! ### displays -/
def dispW : List (Str × C) → Env → (List (Str × D) → Prop) → Prop
  | [], _, Q => Q []
  | (k, c) :: r, env, Q => c env fun d => dispW r env fun ps => Q ((k, d) :: ps)
def cDisp (l : List (Str × C)) : C := fun env Q => dispW l env fun ps => Q (.dct ps)
structure DPs (X : Cx) (pos : Pos) (keys : List (Option Expr)) (values : List Expr) (l : List (Str × C)) : Prop where
  run : PPs X pos keys values (l.map fun p => (tC (.str p.1), tD X.K p.2))
theorem dps_nil : DPs X pos [] [] [] := ⟨pps_nil⟩
theorem dps_cons {k : Str} {kp : Pos} {kj} {ks : List (Option Expr)} {vs : List Expr} {l : List (Str × C)} (hv : DE X v cv) (hr : DPs X pos ks vs l) : DPs X pos (some (.Constant (.str k) kj kp) :: ks) (v :: vs) ((k, cv) :: l) := ⟨pps_cons pe_str hv hr.run⟩
theorem tPairs_of {K : PySem.W.Frag} : ∀ {l : List (Str × C)} {S : Sa} {R H : Hp} {σ : L2.St} {env : Env} {Qd : List (Str × D) → Prop} {Q : List (V × V) → Hp → Prop}, Wd S R H → EnvR K S R H σ env → dispW l env Qd →
    (∀ ps ws R' H', Qd ps → Wx S [] R H R' H' → RepK K S R' ws ps → ps.map (·.1) = l.map (·.1) → Q (ws.map fun kv => (kV kv.1, kv.2)) H') → tPairs (l.map fun p => (tC (.str p.1), tD K p.2)) σ H Q
  | [], S, R, H, σ, env, Qd, Q, wd, er, hq, k => k [] [] R H hq wd.refl .nil rfl
  | (kk, c) :: l, S, R, H, σ, env, Qd, Q, wd, er, hq, k => ⟨S, R, env, _, wd, er, hq, fun d v R1 H1 hd w r =>
      tPairs_of (l := l) w.wd (er.step w) hd fun ps ws R2 H2 hp w2 r2 hl => k _ _ R2 H2 hp (w.tr w2) (.cons (r.mono w2.rr) r2) (by rw [List.map_cons, List.map_cons, hl])⟩
theorem RepK.keys {K : PySem.W.Frag} {S : Sa} {R : Hp} : ∀ {ws : List (Key × V)} {kvs : List (Str × D)}, RepK K S R ws kvs → ws.map (·.1) = kvs.map fun p => (.inr p.1 : Key)
  | _, _, .nil => rfl
  | _, _, .cons _ r => by rw [List.map_cons, List.map_cons, RepK.keys r]
theorem putK_new' {ws : List (Key × V)} {k : Key} {v : V} (h : k ∉ ws.map (·.1)) : putK ws k v = ws ++ [(k, v)] := by
  unfold putK
  rw [if_neg]
  rw [List.any_eq_true]
  rintro ⟨x, hx, e⟩
  exact h (List.mem_map.mpr ⟨x, hx, of_decide_eq_true e⟩)
theorem mergeK_app : ∀ (more acc : List (Key × V)), ((acc ++ more).map (·.1)).Nodup → mergeK acc more = acc ++ more
  | [], acc, _ => by rw [List.append_nil]; rfl
  | p :: r, acc, h => by
    have hn : p.1 ∉ acc.map (·.1) := by
      intro hm
      rw [List.map_append, List.map_cons] at h
      have := (List.nodup_append.mp h).2.2 _ hm _ List.mem_cons_self
      exact this rfl
    show mergeK (putK acc p.1 p.2) r = _
    rw [putK_new' hn, mergeK_app r _ (by simpa using h)]
    simp
theorem mergeK_nodup {kvs : List (Key × V)} (h : (kvs.map (·.1)).Nodup) : mergeK [] kvs = kvs := mergeK_app kvs [] (by simpa using h)
theorem nodup_inr {ks : List Str} (h : ks.Nodup) : (ks.map fun k => (.inr k : Key)).Nodup := by
  induction h with
  | nil => exact List.nodup_nil
  | cons h _ ih =>
    rw [List.map_cons]
    refine List.nodup_cons.mpr ⟨fun hm => ?_, ih⟩
    obtain ⟨x, hx, e⟩ := List.mem_map.mp hm
    exact h x hx (Sum.inr.inj e).symm
theorem df_disp {keys : List (Option Expr)} {values : List Expr} {l : List (Str × C)} (h : DPs X pos keys values l) (hk : (l.map (·.1)).Nodup := by decide +kernel) (hall : keys.all (·.isSome) = true := by rfl) (hl : keys.length = values.length := by rfl) (h0 : keys ≠ [] := by exact (fun z => nomatch z))
    (h15 : keys.length ≤ 15 := by decide) (hl15 : l.length ≤ 15 := by decide) : DF X (.Dict keys values pos) (cDisp l) :=
  PEimp (pe_disp h.run hall hl h0 h15) fun σ H Q ⟨S, R, env, Qd, wd, er, hq, k⟩ p hp => by
    have w1 : Wx S [] R H R (upd H p (.dK [])) := wd.laid hp
    obtain ⟨n1, n2⟩ := wd.new_ne hp
    refine tPairs_of w1.wd (er.step w1) hq fun ps ws R2 H2 hp2 w2 r2 ek => ?_
    have h2 := w2.hh p _ (fun z => nomatch z) n1 n2 upd_same
    have rn := w2.fr p (fun z => nomatch z) (by rw [upd_same]; simp) (wd.new_r hp)
    have nd : (ws.map (·.1)).Nodup := by
      rw [r2.keys]
      have e : (ps.map fun p => (.inr p.1 : Key)) = (ps.map (·.1)).map fun k => (.inr k : Key) := by rw [List.map_map] <;> rfl
      rw [e, ek]
      exact nodup_inr hk
    have lw : ws.length ≤ 15 := by
      have e1 := congrArg List.length ek
      rw [List.length_map, List.length_map] at e1
      rw [r2.len, e1]; exact hl15
    refine ⟨h2, ws, rfl, lw, ?_⟩
    rw [mergeK_nodup nd]
    exact k _ p R2 _ hp2 ((w1.tr w2).trans (w2.wd.write h2 rn n1 n2) fun q hq => .inr (by rw [List.mem_singleton.mp hq]; exact hp)) hp ⟨rn, n1, n2, _, upd_same, .dct r2⟩
theorem df_dnew : DF X (.Dict [] [] pos) (cC (.dct [])) := PEimp pe_dnewK fun σ H Q ⟨S, R, env, Qd, wd, er, hq, k⟩ p hp =>
  k _ p R _ hq (wd.laid hp) hp ⟨wd.new_r hp, (wd.new_ne hp).1, (wd.new_ne hp).2, _, upd_same, .dct .nil⟩

/-! ### list(d), list(d.items()), dict(..) -/
def rListD' : List V → Hp → VK → Prop := fun xs H Q => ∃ p kvs, xs = [.ref p] ∧ Rd H p (.dK kvs) ∧ ∀ q, H q = none → Q (.ref q) (upd H q (.lst (kvs.map fun kv => kV kv.1)))
theorem call_list_dK' (hc : X.calm = true) : CallR X (.type "list") rListD' := by
  intro pins s σ H xs us Q I r h
  obtain ⟨p, kvs, e, hk, q⟩ := h
  subst e
  obtain ⟨u, eu, rx⟩ := vals1 r
  subst eu
  obtain rfl : u = Value.ref p := rx
  obtain ⟨z, lo, vs, rk, hd⟩ := dk_rd I.hok hk
  obtain ⟨ep, hat⟩ := hd.dictAt
  have hl : kvs.length = vs.length := Paired.length rk
  refine PySem.W.kdl_call (PySem.W.kdl_dict (knd := mixKind X.prog X.w) (kvs := vs) (ep := ep) lo) (I.ok.hd hc) hat (by rw [← hl]; exact z) fun h' tk acc' c' hkeep hS hacc => ?_
  refine ⟨.ref s.heap.objs.size, upd H s.heap.objs.size (.lst (kvs.map fun kv => kV kv.1)), I.laid hkeep (Nat.le_refl _) (show ObjOk X.prog X.w _ _ _ (.lst (kvs.map fun kv => kV kv.1)) from ⟨?_, acc'.toList, c', ?_, ?_⟩), rfl, q _ (I.hok.fresh (Nat.le_refl _))⟩
  · rw [List.length_map]; exact z
  · have el : acc'.toList.length = acc'.size := by simp
    refine vals_of_at (by rw [List.length_map, el, hacc.1, hl]) fun j x w h1 h2 => ?_
    obtain ⟨k, y, hky, hi⟩ := hacc.2 j w (by rw [← Array.getElem?_toList]; exact h2)
    have e1 : (kvs.map (·.1))[j]? = some k := by
      rw [KV.keys rk, List.getElem?_map, hky] <;> rfl
    have e2 : (kvs.map fun kv => kV kv.1)[j]? = some (kV k) := by
      have e3 : (kvs.map fun kv => kV kv.1) = (kvs.map (·.1)).map kV := by rw [List.map_map] <;> rfl
      rw [e3, List.getElem?_map, e1] <;> rfl
    rw [e2] at h1
    cases h1
    exact keyIs_rel hi
  · rw [Array.toArray_toList]; exact hS
theorem repl_keys {K : PySem.W.Frag} {S : Sa} {R : Hp} : ∀ {ws : List (Key × V)} {kvs : List (Str × D)}, RepK K S R ws kvs → ∀ R', RepL K S R' (ws.map fun kv => kV kv.1) (kvs.map fun p => .str p.1)
  | _, _, .nil, _ => .nil
  | _, _, .cons _ r, R' => .cons (.str _) (repl_keys r R')
def fList : List D → (D → Prop) → Prop
  | [.lst ds], Q => Q (.lst ds)
  | [.tup ds], Q => Q (.lst ds)
  | [.dct kvs], Q => Q (.lst (kvs.map fun p => .str p.1))
  | _, _ => False
theorem o_list {K : PySem.W.Frag} : CallD K (fun xs H Q => (∃ p ys, xs = [.ref p] ∧ (SqL K H p ys ∨ SqT K H p ys) ∧ ∀ l, H l = none → Q (.ref l) (upd H l (.lst ys))) ∨ rListD' xs H Q) fList := by
  intro S R H xs vs Qd Q wd r h k
  unfold fList at h
  split at h
  · obtain ⟨v, rfl, q0⟩ := one_v r
    obtain ⟨a, vs, rfl, h1, h2⟩ := lst_v q0
    exact .inl ⟨a, vs, rfl, .inl (.inl (wd.rh _ _ h1)), fun l hl => done_lst wd k h h2 hl⟩
  · obtain ⟨v, rfl, q0⟩ := one_v r
    obtain ⟨a, vs, rfl, h1, h2⟩ := tup_v q0
    exact .inl ⟨a, vs, rfl, .inr (h1.sq wd.rh), fun l hl => done_lst wd k h h2 hl⟩
  · obtain ⟨v, rfl, q0⟩ := one_v r
    obtain ⟨a, vs, rfl, h1, h2⟩ := dct_v q0
    exact .inr ⟨a, vs, rfl, wd.rh _ _ h1, fun l hl => done_lst wd k h (repl_keys h2 R) hl⟩
  · exact h.elim
theorem de_list {p : Pos} {ca : CA} (hc : X.calm = true) (hg : Gl X "list") (hm : X.mg "list" = none) (ha : DL X [e] ca) (he : starEach [e] X.env = (false, eval e X.env) :: starEach [] X.env := by rfl) : DE X (.Call (.Name "list" p) [e] [] pos) (cCB fList ca) :=
  de_callTy (call_list_of.or (call_list_dK' hc)) o_list hg hm (by decide +kernel) ha (by decide) (by decide) he rfl
end
end E64
/-! sorted -/
namespace E64
open PySem PySem.Spec PyProof.Rows L2 SrtO
section
variable {prog : Program} {w : World} {A : Around} {E : Value → Shared → Prop} {s : Shared}
/-- v is a tuple that starts with f -/
def HdAt (h : Heap) (v f : Value) : Prop := ∃ a o xs n, v = .ref a ∧ h.get? a = some o ∧ o.cls = .type "tuple" ∧ o.data = .seq xs n ∧ xs[0]? = some f
theorem HdAt.keeps {h h' : Heap} {v f : Value} (p : HdAt h v f) (k : ∀ b o, h.get? b = some o → o.cls = .type "tuple" → h'.get? b = some o) : HdAt h' v f := by
  obtain ⟨a, o, xs, n, e, ho, hc, hd, hf⟩ := p
  exact ⟨a, o, xs, n, e, k _ _ ho hc, hc, hd, hf⟩
structure HdOk (prog : Program) (w : World) (T : String) (k : Value → Value) (lt : Value → Value → Bool) (vs : List Value) : Prop where
  ty : ∀ v ∈ vs, ∀ M h, PySem.W.Looks M h (typeOf (k v)) (.type T)
  tt : (Value.type T == Value.type T) = true
  nt : (Value.type T != Value.type "tuple") = true
  eq : ∀ v ∈ vs, ∀ u ∈ vs, v ≠ u → ∀ A s, SeqAt.EqAt A s (k v) (k u) false
  ls : ∀ v ∈ vs, ∀ u ∈ vs, ∀ A s (E : Value → Shared → Prop) (Q : Bool → Shared → Prop), Q (lt v u) s → wpAny (model prog w) A (oneLt' true (k v) (k u)) Q E s
  ir : ∀ v, lt v v = false
theorem lex_same {Q : Bool → Shared → Prop} {b : Bool} : ∀ (l : List Value) (i : Nat), Q false s → PySem.W.KatLex prog w A b false Q (l.zip l) i s
  | [], i, h => PySem.W.kat_nil h
  | x :: l, i, h => by
    rw [List.zip_cons_cons]
    exact PySem.W.kat_cons (SeqAt.EqAt.same x prog w _ _ (PySem.W.kat_yes (lex_same l (i + 1) h)))
theorem head_list {xs : Array Value} {f : Value} (h : xs[0]? = some f) : ∃ r, xs.toList = f :: r := by
  rw [← Array.getElem?_toList] at h
  cases e : xs.toList with
  | nil => rw [e] at h; cases h
  | cons x r => rw [e] at h; cases h; exact ⟨r, rfl⟩
theorem heads_cmp {T : String} {k : Value → Value} {lt : Value → Value → Bool} {vs : List Value} (O : HdOk prog w T k lt vs) (hp : ∀ v ∈ vs, HdAt s.heap v (k v)) : Cmp prog w A s (tuples' true) (fun p => p.1 ∈ vs) (lt2 lt) := by
  intro p q hm hm'
  have h1 := hp _ hm
  have h2 := hp _ hm'
  show wpAny (model prog w) A (keyLt' (tuples' true) p.1 q.1) (fun r s' => s' = s ∧ r = lt p.1 q.1) (fun _ _ => False) s
  by_cases e : p.1 = q.1
  · rw [← e, O.ir]
    obtain ⟨a, o, xs, n, e1, ho, hc, hd, hf⟩ := h1
    rw [e1]
    refine PySem.W.kat_lt ho hd ho hd ?_
    rw [decide_eq_false (Nat.lt_irrefl _)]
    exact lex_same _ 0 ⟨rfl, rfl⟩
  · have he := O.eq _ hm _ hm' e
    have hl := O.ls _ hm _ hm'
    obtain ⟨a, o, xs, n, e1, ho, hc, hd, hf⟩ := h1
    obtain ⟨a', o', xs', n', e1', ho', hc', hd', hf'⟩ := h2
    obtain ⟨r, er⟩ := head_list hf
    obtain ⟨r', er'⟩ := head_list hf'
    generalize lt p.1 q.1 = c at hl ⊢
    generalize k p.1 = x at he hl er
    generalize k q.1 = y at he hl er'
    rw [e1, e1']
    refine PySem.W.kat_lt ho hd ho' hd' ?_
    rw [er, er', List.zip_cons_cons]
    refine PySem.W.kat_cons (he _ _ prog w _ _ ?_)
    exact PySem.W.kat_no (hl _ _ _ _ ⟨rfl, rfl⟩)
theorem heads_tups {h : Heap} {k : Value → Value} : ∀ {vs : List Value}, (∀ v ∈ vs, HdAt h v (k v)) → PySem.W.KatTups h vs (vs.map k)
  | [], _ => PySem.W.KatTups.nil
  | v :: vs, hp => by
    obtain ⟨a, o, xs, n, e, ho, hc, hd, hf⟩ := hp v List.mem_cons_self
    rw [List.map_cons]
    have r := heads_tups (vs := vs) fun u hu => hp u (List.mem_cons_of_mem _ hu)
    generalize k v = f at hf ⊢
    rw [e]
    exact PySem.W.KatTups.cons ho hc hd hf r
theorem heads_sortable {T : String} {k : Value → Value} {lt : Value → Value → Bool} {a : Addr} {vs : List Value} (O : HdOk prog w T k lt vs) (h0 : 0 < vs.length) (hp : ∀ v ∈ vs, HdAt s.heap v (k v)) (ha : ∀ o, s.heap.get? a = some o → o.cls ≠ .type "tuple") : SortableO prog w A s a vs lt := by
  intro h' keep
  have hp' : ∀ v ∈ vs, HdAt h' v (k v) := fun v hm => (hp v hm).keeps fun b o e c => keep b o (fun z => by subst z; exact ha o e c) e
  refine ⟨tuples' true, fun Q E hq => ?_, heads_cmp O hp'⟩
  refine PySem.W.kat_kind (T := .type T) (heads_tups hp') (by rw [List.length_map]; exact h0) (fun f hm => ?_) O.tt ?_
  · obtain ⟨v, hv, e⟩ := List.mem_map.mp hm
    rw [← e]
    exact O.ty v hv _ _
  · rw [O.nt]
    exact hq
theorem collect_two {l : Addr} {T : String} {o : Obj} {n : Nat} {vs : List Value} {Q : List Value → Shared → Prop} (hT : T = "list" ∨ T = "tuple") (ho : s.heap.get? l = some o) (hc : o.cls = .type T) (hd : o.data = .seq vs.toArray n)
    (h : Q vs { s with heap := (s.heap.push (seqObj "list" #[] 0)).update s.heap.objs.size (Obj.mapSeq (· ++ vs.toArray)) }) (hsz : vs.length ≤ sizeLine) :
    wpAny (model prog w) A (collect (.ref l)) Q E s := by
  unfold collect
  refine wpAny_bind (wpAny_runValue (codeAny_builtin entry_proto_collect' ?_))
  show wpAny _ _ (do again (.builtin "list.__iadd__" ⟨[← newList [], .ref l], []⟩)) _ _ s
  refine wpAny_bind (wpAny_newList (wpAny_pure ⟨Code.quiet_builtin _ (by decide +kernel), codeAny_builtin entry_list_iadd' ?_⟩))
  show wpAny _ _ (Builtin.List.listExtendWith (.ref s.heap.objs.size) (.ref l) (.ref s.heap.objs.size)) _ _ { s with heap := s.heap.push (seqObj "list" #[] 0) }
  unfold Builtin.List.listExtendWith
  have ho' : (s.heap.push (seqObj "list" #[] 0)).get? l = some o := Heap.get?_push_of_some _ ho
  refine wpAny_bind (wpAny_typeOf (T := T) ⟨o, ho', hc⟩ ?_)
  have t1 : (Value.type "list" == Value.type "list") = true := by decide
  have t2 : (Value.type "tuple" == Value.type "tuple") = true := by decide
  rw [if_pos (by rcases hT with e | e <;> subst e <;> simp [t1, t2])]
  refine wpAny_bind (listItems_at ho' hd ?_)
  refine wpAny_bind (listItems_at (xs := #[]) (n := 0) (Heap.get?_push_size _ rfl) rfl ?_)
  rw [if_neg (by simp)]
  refine wpAny_bind (listUpdate_at (xs := #[]) (n := 0) (Heap.get?_push_size _ rfl) rfl ?_ (Nat.zero_le _) (by show (#[] ++ vs.toArray).size ≤ sizeLine + 1; simp only [Array.size_append, List.size_toArray, List.length_nil]; omega))
  refine wpAny_pure ?_
  show wpAny (model prog w) A (do
      let o ← load s.heap.objs.size
      match o.data with
      | .seq xs _ => pure xs.toList
      | _ => unsupported "internal:collect") Q E { s with heap := (s.heap.push (seqObj "list" #[] 0)).update s.heap.objs.size (Obj.mapSeq (· ++ vs.toArray)) }
  refine wpAny_bind (wpAny_load (get?_update_seq (Heap.get?_push_size _ rfl) _) ?_)
  show wpAny _ _ (pure ((#[] : Array Value) ++ vs.toArray).toList) Q E _
  rw [show ((#[] : Array Value) ++ vs.toArray).toList = vs by simp]
  exact wpAny_pure h
/-- sorted(x), x a list or a tuple -/
theorem sorted_seq {l : Addr} {T : String} {o : Obj} {n : Nat} {vs : List Value} {ltv : Value → Value → Bool} {Q : Value → Shared → Prop} (hT : T = "list" ∨ T = "tuple") (ho : s.heap.get? l = some o) (hc : o.cls = .type T) (hd : o.data = .seq vs.toArray n) (O : Swo ltv) (hz : vs.length ≤ sizeLine)
    (hS : 2 ≤ vs.length → ∀ (h₁ : Heap) (a : Addr), h₁.get? a = some (seqObj "list" vs.toArray 0) → (∀ b o, s.heap.get? b = some o → b ≠ a ∧ h₁.get? b = some o) → SortableO prog w A.in1.in1 { s with heap := h₁ } a vs ltv)
    (h : ∀ (h' : Heap) (d : Addr) (out : List Value), Srtd ltv out → Stb ltv out vs → (∀ b o, s.heap.get? b = some o → h'.get? b = some o) → s.heap.objs.size ≤ d → (∃ n, h'.get? d = some (seqObj "list" out.toArray n)) → Q (.ref d) { s with heap := h' }) :
    wpAny (model prog w) A (call (.builtin "sorted") [.ref l]) Q E s := by
  refine Calls.call_function_entry kind_sorted plain_sorted entry_sorted (args_sorted1 _) ?_
  unfold Builtin.«sorted»
  refine wpAny_bind (m := checkCount "sorted" 1 1 _) (wpAny_pure ?_)
  refine wpAny_bind (collect_two hT ho hc hd ?_ hz)
  refine wpAny_bind (wpAny_newList ?_ hz)
  have hsz : ((s.heap.push (seqObj "list" #[] 0)).update s.heap.objs.size (Obj.mapSeq (· ++ vs.toArray))).objs.size = s.heap.objs.size + 1 := by
    rw [Heap.size_update, size_push']
  have hoL : (((s.heap.push (seqObj "list" #[] 0)).update s.heap.objs.size (Obj.mapSeq (· ++ vs.toArray))).push (seqObj "list" vs.toArray 0)).get? (s.heap.objs.size + 1) = some (seqObj "list" vs.toArray 0) := by
    rw [← hsz]; exact Heap.get?_push_size _ rfl
  have keep : ∀ b o, s.heap.get? b = some o → b ≠ s.heap.objs.size + 1 ∧ (((s.heap.push (seqObj "list" #[] 0)).update s.heap.objs.size (Obj.mapSeq (· ++ vs.toArray))).push (seqObj "list" vs.toArray 0)).get? b = some o := fun b o q => by
    have hlt : b < s.heap.objs.size := Heap.lt_size q
    refine ⟨Nat.ne_of_lt (Nat.lt_succ_of_lt hlt), Heap.get?_push_of_some _ ?_⟩
    rw [Heap.get?_update_ne _ _ _ _ (Nat.ne_of_lt hlt)]
    exact Heap.get?_push_of_some _ q
  show wpAny _ _ _ _ _ { s with heap := ((s.heap.push (seqObj "list" #[] 0)).update s.heap.objs.size (Obj.mapSeq (· ++ vs.toArray))).push (seqObj "list" vs.toArray 0) }
  rw [hsz]
  refine wpAny_bind (wpAny_holding (wpAny_call_entry slot_list_sort ⟨_, hoL, rfl⟩ entry_list_sort (list_sort_ord O hoL hz (fun h2 => hS h2 _ _ hoL keep) fun out hs hb => ⟨_, rfl, ?_⟩) (args_list_sort _)))
  exact wpAny_pure ⟨_, rfl, h _ _ out hs hb (fun b o e => sortedAll_old e) (Nat.le_succ _) (sortedAll_at s.heap vs out.toArray)⟩
/-- sorted(x) of tuples whose heads differ -/
theorem sorted_heads {l : Addr} {T T2 : String} {o : Obj} {n : Nat} {vs : List Value} {k : Value → Value} {lt : Value → Value → Bool} {Q : Value → Shared → Prop} (hT : T = "list" ∨ T = "tuple") (ho : s.heap.get? l = some o) (hc : o.cls = .type T) (hd : o.data = .seq vs.toArray n) (O : Swo lt) (hz : vs.length ≤ sizeLine)
    (H : HdOk prog w T2 k lt vs) (hp : ∀ v ∈ vs, HdAt s.heap v (k v))
    (h : ∀ (h' : Heap) (d : Addr) (out : List Value), Srtd lt out → out.Perm vs → (∀ b o, s.heap.get? b = some o → h'.get? b = some o) → s.heap.objs.size ≤ d → (∃ n, h'.get? d = some (seqObj "list" out.toArray n)) → Q (.ref d) { s with heap := h' }) :
    wpAny (model prog w) A (call (.builtin "sorted") [.ref l]) Q E s := by
  refine sorted_seq hT ho hc hd O hz (fun h2 h₁ a ha kk => ?_) fun h' d out hs hb => h h' d out hs hb.perm
  refine heads_sortable (s := { s with heap := h₁ }) H (by omega) (fun v hm => (hp v hm).keeps fun b o e _ => (kk b o e).2) fun o e => ?_
  have e' : some o = some (seqObj "list" vs.toArray 0) := e.symm.trans ha
  cases e'
  intro c
  exact absurd (Value.type.inj c) (by decide)
end
/-- a kind of heads -/
structure KeyT (α : Type) where
  of : α → V
  inj : ∀ a b, of a = of b → a = b
  lt : α → α → Bool
  T : String
  swo : SrtO.Swo lt
  tt : (Value.type T == Value.type T) = true
  nt : (Value.type T != Value.type "tuple") = true
  ty : ∀ a u M h, RelV (of a) u → PySem.W.Looks M h (typeOf u) (.type T)
  eq : ∀ a b u v A s, a ≠ b → RelV (of a) u → RelV (of b) v → SeqAt.EqAt A s u v false
  ls : ∀ prog w a b u v A s (E : Value → Shared → Prop) (Q : Bool → Shared → Prop), RelV (of a) u → RelV (of b) v → Q (lt a b) s → wpAny (model prog w) A (oneLt' true u v) Q E s
def keyI : KeyT Int where
  of := .int
  inj := fun _ _ h => by cases h; rfl
  lt := fun x y => decide (x < y)
  T := "int"
  swo := ⟨fun x y h => by simp at h ⊢; omega, fun x y z h1 h2 => by simp at h1 h2 ⊢; omega⟩
  tt := by decide
  nt := by decide
  ty := by rintro a u M h ⟨t, rfl⟩; exact PySem.W.Looks.now
  eq := by
    rintro a b u v A s ne ⟨t, rfl⟩ ⟨t', rfl⟩
    have e := SeqAt.EqAt.int_int (A := A) (s := s) a t b t'
    rw [beq_eq_false_iff_ne.mpr ne] at e
    exact e
  ls := by rintro prog w a b u v A s E Q ⟨t, rfl⟩ ⟨t', rfl⟩ h; exact oneLt_int h
def keyS : KeyT Str where
  of := .str
  inj := fun _ _ h => by cases h; rfl
  lt := ltS
  T := "str"
  swo := swoS
  tt := by decide
  nt := by decide
  ty := by rintro a u M h ⟨t, rfl⟩; exact PySem.W.Looks.now
  eq := by
    rintro a b u v A s ne ⟨t, rfl⟩ ⟨t', rfl⟩
    have e := SeqAt.EqAt.str_str (A := A) (s := s) a t b t'
    rw [beq_eq_false_iff_ne.mpr ne] at e
    exact e
  ls := by rintro prog w a b u v A s E Q ⟨t, rfl⟩ ⟨t', rfl⟩ h; exact oneLt_str h
theorem perm_map_ex {β γ : Type} {f : γ → β} {m n : List β} (p : m.Perm n) : ∀ {l : List γ}, n = l.map f → ∃ l' : List γ, l'.Perm l ∧ m = l'.map f := by
  induction p with
  | nil => intro l e; exact ⟨l, List.Perm.refl _, e⟩
  | cons x p ih =>
    intro l e
    cases l with
    | nil => cases e
    | cons a l =>
      rw [List.map_cons] at e
      injection e with e1 e2
      obtain ⟨l', h1, h2⟩ := ih e2
      exact ⟨a :: l', h1.cons a, by rw [List.map_cons, e1, h2]⟩
  | swap x y l =>
    intro l0 e
    match l0, e with
    | [], e => cases e
    | [_], e => cases e
    | a :: b :: l0, e =>
      rw [List.map_cons, List.map_cons] at e
      injection e with e1 e2
      injection e2 with e2 e3
      exact ⟨b :: a :: l0, List.Perm.swap _ _ _, by rw [List.map_cons, List.map_cons, e1, e2, e3]⟩
  | trans p q ih1 ih2 =>
    intro l e
    obtain ⟨l1, h1, h2⟩ := ih2 e
    obtain ⟨l2, h3, h4⟩ := ih1 h2
    exact ⟨l2, h3.trans h1, h4⟩
/-- sorted(x) of tuples whose heads are keys of one kind and differ: the items are told by ts -/
def rSortH {α : Type} (C : KeyT α) (K : PySem.W.Frag) : List V → Hp → VK → Prop := fun vs H Q => ∃ (γ : Type) (a : Addr) (ts : List γ) (v : γ → V) (k : γ → α), vs = [V.ref a] ∧ (SqL K H a (ts.map v) ∨ SqT K H a (ts.map v)) ∧ (∀ x ∈ ts, ∃ t ys, v x = V.ref t ∧ SqT K H t (C.of (k x) :: ys)) ∧ (ts.map k).Nodup ∧
  ∀ us p, Sd (fun x y => C.lt (k x) (k y)) us → us.Perm ts → H p = none → Q (.ref p) (upd H p (.lst (us.map v)))
theorem nodup_inj {γ α : Type} {k : γ → α} : ∀ {ts : List γ}, (ts.map k).Nodup → ∀ x ∈ ts, ∀ y ∈ ts, k x = k y → x = y
  | [], _, x, hx, _, _, _ => nomatch hx
  | t :: ts, h, x, hx, y, hy, e => by
    rw [List.map_cons] at h
    obtain ⟨h1, h2⟩ := List.nodup_cons.mp h
    rcases List.mem_cons.mp hx with ex | hx
    · rcases List.mem_cons.mp hy with ey | hy
      · rw [ex, ey]
      · exact absurd (List.mem_map.mpr ⟨y, hy, by rw [← e, ex]⟩) h1
    · rcases List.mem_cons.mp hy with ey | hy
      · exact absurd (List.mem_map.mpr ⟨x, hx, by rw [e, ey]⟩) h1
      · exact nodup_inj h2 x hx y hy e
theorem cr_sortH {α : Type} (C : KeyT α) {X : Cx} : CallR X (.builtin "sorted") (rSortH C X.K) := by
  intro pins s σ H vs us Q I r h
  obtain ⟨γ, a, ts, fv, key, rfl, hs, hx, nd, q⟩ := h
  obtain ⟨its, T, o, n, rv, hT, ho, hc, hd, hz⟩ : ∃ its T o n, Vals (ts.map fv) its ∧ (T = "list" ∨ T = "tuple") ∧ s.heap.get? a = some o ∧ o.cls = .type T ∧ o.data = .seq its.toArray n ∧ (ts.map fv).length ≤ sizeLine := by
    rcases hs with hs | hs
    · obtain ⟨its, rv, ⟨o, n, ho, hc, _, hd⟩, hz⟩ := I.list hs
      exact ⟨its, _, o, n, rv, .inl rfl, ho, hc, hd, hz⟩
    · obtain ⟨its, rv, ⟨o, ho, hc, n, hd⟩, hz⟩ := I.tuple hs
      exact ⟨its, _, o, n, rv, .inr rfl, ho, hc, hd, hz⟩
  obtain ⟨u, rfl, ru⟩ := vals1 r
  obtain rfl : u = Value.ref a := ru
  obtain ⟨e1, e2⟩ := refs_back rv fun x m => by
    obtain ⟨g, hg, e⟩ := List.mem_map.mp m
    obtain ⟨t, ys, e', _⟩ := hx g hg
    exact ⟨t, by rw [← e, e']⟩
  -- each value: the item it stands for
  have item : ∀ v ∈ its, ∃ g ∈ ts, fv g = backV v := fun v hv => by
    have : backV v ∈ ts.map fv := by rw [e1]; exact List.mem_map.mpr ⟨v, hv, rfl⟩
    exact List.mem_map.mp this
  have keys : ∀ g ∈ ts, ∀ g' ∈ ts, fv g = fv g' → key g = key g' := fun g hg g' hg' e => by
    obtain ⟨t, ys, h1, h2⟩ := hx g hg
    obtain ⟨t', ys', h1', h2'⟩ := hx g' hg'
    rw [h1, h1'] at e
    cases e
    have := I.tuple_inj h2 h2'
    injection this with e1 _
    exact C.inj _ _ e1
  have hh : ∀ v ∈ its, ∃ f, HdAt s.heap v f ∧ ∃ g ∈ ts, fv g = backV v ∧ RelV (C.of (key g)) f := fun v hv => by
    obtain ⟨g, hg, e⟩ := item v hv
    obtain ⟨t, ys, e3, ht⟩ := hx g hg
    obtain ⟨t', rfl⟩ := e2 v hv
    rw [e3] at e
    cases e
    obtain ⟨its2, r2, ⟨o2, ho2, hc2, n2, hd2⟩, _⟩ := I.tuple ht
    cases r2 with
    | cons rf rr => exact ⟨_, ⟨t, o2, _, n2, rfl, ho2, hc2, hd2, by simp⟩, g, hg, e3, rf⟩
  have hcho : ∃ kv : Value → Value, ∀ v ∈ its, HdAt s.heap v (kv v) ∧ ∃ g ∈ ts, fv g = backV v ∧ RelV (C.of (key g)) (kv v) := by
    classical
    refine ⟨fun v => if h : ∃ f, HdAt s.heap v f ∧ ∃ g ∈ ts, fv g = backV v ∧ RelV (C.of (key g)) f then Classical.choose h else .none, fun v hv => ?_⟩
    have h := hh v hv
    simp only [dif_pos h]
    exact Classical.choose_spec h
  obtain ⟨kv, hkv⟩ := hcho
  by_cases hne : ts = []
  · subst hne
    cases rv
    refine sorted_seq (ltv := fun _ _ => false) hT ho hc hd ⟨fun _ _ h => (nomatch h), fun _ _ _ _ _ => rfl⟩ (Nat.zero_le _) (fun h2 => by simp at h2) fun h' d out h1 h2 kp hd hn => ?_
    have e := h2.perm.eq_nil
    subst e
    obtain ⟨n, hn⟩ := hn
    exact ⟨.ref d, upd H d (.lst []), I.laid (t' := s.toks) kp hd ⟨Nat.zero_le _, [], n, .nil, hn⟩, rfl, q [] d List.Pairwise.nil (List.Perm.refl _) (I.hok.fresh hd)⟩
  obtain ⟨g0, hg0⟩ : ∃ g, g ∈ ts := by
    cases ts with
    | nil => exact absurd rfl hne
    | cons g _ => exact ⟨g, List.mem_cons_self⟩
  have hk : ∃ k : V → α, ∀ g ∈ ts, k (fv g) = key g := by
    classical
    refine ⟨fun v => if h : ∃ g ∈ ts, fv g = v then key (Classical.choose h) else key g0, fun g hg => ?_⟩
    have h : ∃ g' ∈ ts, fv g' = fv g := ⟨g, hg, rfl⟩
    simp only [dif_pos h]
    exact keys _ (Classical.choose_spec h).1 _ hg (Classical.choose_spec h).2
  obtain ⟨k, hk⟩ := hk
  have rel : ∀ v ∈ its, HdAt s.heap v (kv v) ∧ RelV (C.of (k (backV v))) (kv v) := fun v hv => by
    obtain ⟨h1, g, hg, h2, h3⟩ := hkv v hv
    exact ⟨h1, by rw [← h2, hk g hg]; exact h3⟩
  have O : Swo fun v u => C.lt (k (backV v)) (k (backV u)) := ⟨fun x y h => C.swo.asym _ _ h, fun x y z h1 h2 => C.swo.tr _ _ _ h1 h2⟩
  refine sorted_heads (T2 := C.T) (k := kv) (lt := fun v u => C.lt (k (backV v)) (k (backV u))) hT ho hc hd O (by rw [← rv.length]; exact hz) ⟨fun v hv M h => C.ty _ _ M h (rel v hv).2, C.tt, C.nt, fun v hv u hu ne A s => ?_, fun v hv u hu A s E Q q => C.ls _ _ _ _ _ _ A s E Q (rel v hv).2 (rel u hu).2 q, fun v => C.swo.refl _⟩ (fun v hv => (rel v hv).1) fun h' d out h1 h2 kp hd hn => ?_
  · refine C.eq _ _ _ _ A s (fun e => ne ?_) (rel v hv).2 (rel u hu).2
    obtain ⟨g, hg, e3⟩ := item v hv
    obtain ⟨g', hg', e4⟩ := item u hu
    rw [← e3, ← e4, hk g hg, hk g' hg'] at e
    have z := nodup_inj nd g hg g' hg' e
    rw [z, e4] at e3
    obtain ⟨t, rfl⟩ := e2 v hv
    obtain ⟨t', rfl⟩ := e2 u hu
    cases e3
    rfl
  · have h3 : ∀ u ∈ out, ∃ a, u = Value.ref a := fun u hu => e2 u (h2.mem_iff.mp hu)
    obtain ⟨n, hn⟩ := hn
    have hb : (out.map backV).Perm (ts.map fv) := by rw [e1]; exact h2.map _
    obtain ⟨ws, p1, p2⟩ := perm_map_ex hb rfl
    have hsd : Sd (fun x y => C.lt (k x) (k y)) (out.map backV) := List.pairwise_map.mpr h1
    rw [p2] at hsd
    have hsd2 : Sd (fun x y => C.lt (key x) (key y)) ws := by
      refine (List.pairwise_map.mp hsd).imp_of_mem fun {x y} hx hy h => ?_
      show C.lt (key y) (key x) = false
      rw [← hk x (p1.mem_iff.mp hx), ← hk y (p1.mem_iff.mp hy)]
      exact h
    have hl : (out.map backV).length ≤ sizeLine := by rw [hb.length_eq]; exact hz
    have hfin := q ws d hsd2 p1 (I.hok.fresh hd)
    rw [← p2] at hfin
    exact ⟨.ref d, upd H d (.lst (out.map backV)), I.laid (t' := s.toks) kp hd ⟨hl, out, n, vals_back h3, hn⟩, rfl, hfin⟩
/-! as data -/
def hdI : D → Int
  | .tup (.int i :: _) => i
  | _ => 0
def hdS : D → Str
  | .tup (.str x :: _) => x
  | .str x => x
  | _ => ⟨#[]⟩
def lI (x y : D) : Bool := decide (hdI x < hdI y)
def lS (x y : D) : Bool := ltS (hdS x) (hdS y)
def tupI : D → Prop
  | .tup (.int _ :: _) => True
  | _ => False
def tupS : D → Prop
  | .tup (.str _ :: _) => True
  | _ => False
def isS : D → Prop
  | .str _ => True
  | _ => False
def fSrt (ds : List D) (Q : D → Prop) : Prop :=
  ((∀ d ∈ ds, tupI d) ∧ (ds.map hdI).Nodup ∧ Q (.lst (srtB lI ds))) ∨ ((∀ d ∈ ds, tupS d) ∧ (ds.map hdS).Nodup ∧ Q (.lst (srtB lS ds)))
def fSorted : List D → (D → Prop) → Prop
  | [.lst ds], Q => fSrt ds Q ∨ ((∀ d ∈ ds, isS d) ∧ ds.length < 64 ∧ Q (.lst (srtB lS ds)))
  | [.tup ds], Q => fSrt ds Q
  | _, _ => False
theorem swoI : SrtO.Swo lI := ⟨fun x y h => keyI.swo.asym _ _ h, fun x y z h1 h2 => keyI.swo.tr _ _ _ h1 h2⟩
theorem swoLS : SrtO.Swo lS := ⟨fun x y h => swoS.asym _ _ h, fun x y z h1 h2 => swoS.tr _ _ _ h1 h2⟩
section
variable {K : PySem.W.Frag}
theorem RepL.zip {S : Sa} {R : Hp} : ∀ {vs : List V} {ds : List D}, RepL K S R vs ds → ∃ ts : List (V × D), vs = ts.map (·.1) ∧ ds = ts.map (·.2) ∧ ∀ t ∈ ts, Rep K S R t.1 t.2
  | _, _, .nil => ⟨[], rfl, rfl, fun _ h => nomatch h⟩
  | _, _, .cons (v := v) (d := d) a b => by
    obtain ⟨ts, h1, h2, h3⟩ := b.zip
    refine ⟨(v, d) :: ts, by rw [h1]; rfl, by rw [h2]; rfl, fun t ht => ?_⟩
    rcases List.mem_cons.mp ht with e | e
    · rw [e]; exact a
    · exact h3 t e
theorem repl_of {S : Sa} {R : Hp} : ∀ {ts : List (V × D)}, (∀ t ∈ ts, Rep K S R t.1 t.2) → RepL K S R (ts.map (·.1)) (ts.map (·.2))
  | [], _ => .nil
  | t :: ts, h => .cons (h t List.mem_cons_self) (repl_of fun u hu => h u (List.mem_cons_of_mem _ hu))
def rSorted3 (K : PySem.W.Frag) : List V → Hp → VK → Prop := fun xs H Q => rSortH keyI K xs H Q ∨ (rSortH keyS K xs H Q ∨ rSortedS K xs H Q)
theorem srt_end {S : Sa} {R H : Hp} {Qd : D → Prop} {Q : VK} {ts us : List (V × D)} {lt : D → D → Bool} {p : Addr} (O : SrtO.Swo lt) (wd : Wd S R H) (k : ∀ d w R' H', Qd d → Wx S [] R H R' H' → Rep K S R' w d → Q w H') (hr : ∀ t ∈ ts, Rep K S R t.1 t.2)
    (inj : ∀ x ∈ ts.map (·.2), ∀ y ∈ ts.map (·.2), lt x y = false → lt y x = false → x = y) (q : Qd (.lst (srtB lt (ts.map (·.2))))) (h1 : Sd (fun x y : V × D => lt x.2 y.2) us) (h2 : us.Perm ts) (hp : H p = none) : Q (.ref p) (upd H p (.lst (us.map (·.1)))) := by
  have e : us.map (·.2) = srtB lt (ts.map (·.2)) := by
    have pm := h2.map (fun t : V × D => t.2)
    exact srtB_of O (fun x hx y hy => inj x (pm.mem_iff.mp hx) y (pm.mem_iff.mp hy)) (List.pairwise_map.mpr h1) pm
  refine done_lst wd k (ds := us.map (·.2)) (by rw [e]; exact q) (repl_of fun t ht => hr t (h2.mem_iff.mp ht)) hp
theorem lI_inj {ds : List D} (h : (ds.map hdI).Nodup) : ∀ x ∈ ds, ∀ y ∈ ds, lI x y = false → lI y x = false → x = y := fun x hx y hy a b => nodup_inj h x hx y hy (by
  unfold lI at a b; simp at a b; omega)
theorem lS_inj {ds : List D} (h : (ds.map hdS).Nodup) : ∀ x ∈ ds, ∀ y ∈ ds, lS x y = false → lS y x = false → x = y := fun x hx y hy a b => nodup_inj h x hx y hy (ltS_anti a b)
theorem srt_core {S : Sa} {R H : Hp} {Qd : D → Prop} {Q : VK} {ds : List D} {vs : List V} {a : Addr} (wd : Wd S R H) (hs : SqL K H a vs ∨ SqT K H a vs) (r : RepL K S R vs ds) (h : fSrt ds Qd) (k : ∀ d w R' H', Qd d → Wx S [] R H R' H' → Rep K S R' w d → Q w H') : rSorted3 K [.ref a] H Q := by
  obtain ⟨ts, e1, e2, hr⟩ := r.zip
  rcases h with ⟨h1, h2, q⟩ | ⟨h1, h2, q⟩
  · refine .inl ⟨V × D, a, ts, (·.1), fun t => hdI t.2, rfl, by rw [← e1]; exact hs, fun t ht => ?_, by rw [e2, List.map_map] at h2; exact h2, fun us p s1 p1 hp => ?_⟩
    · have hd := h1 t.2 (by rw [e2]; exact List.mem_map.mpr ⟨t, ht, rfl⟩)
      have rt := hr t ht
      show ∃ t' ys, t.1 = V.ref t' ∧ SqT K H t' (V.int (hdI t.2) :: ys)
      revert hd rt
      generalize t.2 = d
      generalize t.1 = v
      intro hd rt
      cases rt with
      | tup g1 g2 =>
        cases g2 with
        | nil => exact hd.elim
        | cons b1 b2 =>
          cases b1 with
          | int i => exact ⟨_, _, rfl, g1.sq wd.rh⟩
          | _ => exact hd.elim
      | _ => exact hd.elim
    · exact srt_end swoI wd k hr (by rw [← e2]; exact lI_inj h2) (by rw [← e2]; exact q) s1 p1 hp
  · refine .inr (.inl ⟨V × D, a, ts, (·.1), fun t => hdS t.2, rfl, by rw [← e1]; exact hs, fun t ht => ?_, by rw [e2, List.map_map] at h2; exact h2, fun us p s1 p1 hp => ?_⟩)
    · have hd := h1 t.2 (by rw [e2]; exact List.mem_map.mpr ⟨t, ht, rfl⟩)
      have rt := hr t ht
      show ∃ t' ys, t.1 = V.ref t' ∧ SqT K H t' (V.str (hdS t.2) :: ys)
      revert hd rt
      generalize t.2 = d
      generalize t.1 = v
      intro hd rt
      cases rt with
      | tup g1 g2 =>
        cases g2 with
        | nil => exact hd.elim
        | cons b1 b2 =>
          cases b1 with
          | str i => exact ⟨_, _, rfl, g1.sq wd.rh⟩
          | _ => exact hd.elim
      | _ => exact hd.elim
    · exact srt_end swoLS wd k hr (by rw [← e2]; exact lS_inj h2) (by rw [← e2]; exact q) s1 p1 hp
theorem strs_v {S : Sa} {R : Hp} : ∀ {vs : List V} {ds : List D}, RepL K S R vs ds → (∀ d ∈ ds, isS d) → ∃ xs : List Str, vs = xs.map V.str ∧ ds = xs.map D.str
  | _, _, .nil, _ => ⟨[], rfl, rfl⟩
  | _, _, .cons (d := d) a b, h => by
    obtain ⟨xs, e1, e2⟩ := strs_v b fun u hu => h u (List.mem_cons_of_mem _ hu)
    have hd := h d List.mem_cons_self
    cases a with
    | str x => exact ⟨x :: xs, by rw [e1]; rfl, by rw [e2]; rfl⟩
    | _ => exact hd.elim
theorem repl_strs {S : Sa} {R : Hp} : ∀ xs : List Str, RepL K S R (xs.map V.str) (xs.map D.str)
  | [] => .nil
  | x :: xs => .cons (.str x) (repl_strs xs)
theorem o_sorted : CallD K (rSorted3 K) fSorted := by
  intro S R H xs vs Qd Q wd r h k
  unfold fSorted at h
  split at h
  · obtain ⟨v, rfl, q0⟩ := one_v r
    obtain ⟨a, vs, rfl, h1, h2⟩ := lst_v q0
    rcases h with h | ⟨h3, h4, q⟩
    · exact srt_core wd (.inl (.inl (wd.rh _ _ h1))) h2 h k
    · obtain ⟨xs, e1, e2⟩ := strs_v h2 h3
      subst e1 e2
      rw [List.length_map] at h4
      refine .inr (.inr ⟨a, xs, rfl, .inl (wd.rh _ _ h1), h4, fun ys p p1 s1 hp => ?_⟩)
      have e := sorted_is s1 p1
      refine done_lst wd k (ds := ys.map D.str) ?_ (repl_strs ys) hp
      rw [e, ← srtB_map (lt := ltS) (lt' := lS) (f := D.str) (fun _ _ => rfl)]
      exact q
  · obtain ⟨v, rfl, q0⟩ := one_v r
    obtain ⟨a, vs, rfl, h1, h2⟩ := tup_v q0
    exact srt_core wd (.inr (h1.sq wd.rh)) h2 h k
  · exact h.elim
end
section
variable {X : Cx} {p pos : Pos} {e : Expr} {ca : CA}
theorem de_sorted (hg : Gl X "sorted") (hm : X.mg "sorted" = none) (ha : DL X [e] ca) (he : starEach [e] X.env = (false, eval e X.env) :: starEach [] X.env := by rfl) : DE X (.Call (.Name "sorted" p) [e] [] pos) (cCB fSorted ca) :=
  de_callB ((cr_sortH keyI).or ((cr_sortH keyS).or cr_sortedS)) o_sorted hg hm (by decide +kernel) ha (by decide) (by decide) he rfl
/-- sorted(x), x a list of ours -/
def cSortO (j : Nat) : C := fun env Q => ∃ ds, env.ow = some (j, .lst ds) ∧ fSrt ds Q
theorem de_sortO {j : Nat} (hg : Gl X "sorted") (hm : X.mg "sorted" = none) (h : PE X e (tVar j)) (he : starEach [e] X.env = (false, eval e X.env) :: starEach [] X.env := by rfl) : DE X (.Call (.Name "sorted" p) [e] [] pos) (cSortO j) :=
  PEimp (pe_callB ((cr_sortH keyI).or ((cr_sortH keyS).or cr_sortedS)) hg hm (by decide +kernel) (pa_cons h pa_nil he) (by decide) (by decide) he rfl) fun σ H Q ⟨S, R, env, Qd, wd, er, ⟨ds, ho, hq⟩, k⟩ => by
    obtain ⟨p, hp, ow⟩ := er.ow j _ ho
    obtain ⟨vs, h1, r⟩ := own_lst ow
    exact ⟨_, hp, srt_core wd (.inl (.inl (.inl h1))) r hq k⟩
end
end E64
/-! list(d.items()), dict(..), d.get(None, x), abs, xs[::-1] -/
namespace E64
open PySem PySem.Spec PyProof.Rows L2

/-- all that is new is frozen -/
def newR (R H H' : Hp) : Hp := fun b => if (H b).isNone = true then H' b else R b
theorem Wd.news {S : Sa} {xs : List Addr} {R H H' : Hp} (w : Wd S R H) (k : ∀ b o, H b = some o → H' b = some o) : Wx S xs R H (newR R H H') H' := by
  have old : ∀ b, H b ≠ none → newR R H H' b = R b := fun b h => by
    unfold newR
    rw [if_neg (by cases e : H b with | none => exact absurd e h | some _ => simp)]
  have new : ∀ b, H b = none → newR R H H' b = H' b := fun b h => by unfold newR; rw [h] <;> rfl
  have inR : ∀ b o, R b = some o → H b ≠ none := fun b o e z => by rw [w.new_r z] at e; cases e
  refine ⟨fun b o e => by rw [old b (inR b o e)]; exact e, ⟨fun b o e => ?_, fun b f o e => ?_⟩, fun b o _ _ _ e => k b o e, fun b h => ?_, fun b _ h e => by rw [old b h]; exact e, ?_⟩
  · by_cases h : H b = none
    · rw [new b h] at e; exact .inl e
    · rw [old b h] at e
      rcases w.rh b o e with q | ⟨f, q⟩
      · exact .inl (k _ _ q)
      · exact .inr ⟨f, k _ _ q⟩
  · by_cases h : H b = none
    · rw [new b h] at e; exact e
    · rw [old b h] at e; exact k _ _ (w.rh.nf b f o e)
  · cases e : H b with
    | none => exact absurd e h
    | some o => rw [k b o e]; simp
  · obtain ⟨z1, z2, cs, l, m, t, q1, q2⟩ := w.so
    exact ⟨by rw [old _ w.there.1]; exact z1, by rw [old _ w.there.2]; exact z2, cs, l, m, t, k _ _ q1, k _ _ q2⟩
theorem newR_at {R H H' : Hp} {b : Addr} (h : H b = none) : newR R H H' b = H' b := by unfold newR; rw [h] <;> rfl

/-! ### list(d.items()) -/
def putP : Hp → List (Addr × HO) → Hp
  | H, [] => H
  | H, p :: r => putP (upd H p.1 p.2) r
theorem putP_off {b : Addr} : ∀ (r : List (Addr × HO)) (H : Hp), b ∉ r.map (·.1) → putP H r b = H b
  | [], _, _ => rfl
  | p :: r, H, h => by
    show putP (upd H p.1 p.2) r b = H b
    rw [putP_off r _ (fun z => h (List.mem_cons_of_mem _ z)), upd_ne (fun z => h (by rw [z]; exact List.mem_cons_self))]
theorem putP_at : ∀ (r : List (Addr × HO)) (H : Hp), (r.map (·.1)).Nodup → ∀ p ∈ r, putP H r p.1 = some p.2
  | [], _, _, _, hp => nomatch hp
  | q :: r, H, hn, p, hp => by
    obtain ⟨h1, h2⟩ := List.nodup_cons.mp hn
    rcases List.mem_cons.mp hp with e | e
    · rw [e]
      show putP (upd H q.1 q.2) r q.1 = _
      rw [putP_off r _ h1, upd_same]
    · exact putP_at r _ h2 p e
def objAt (h : Heap) (a : Addr) : Obj := (h.get? a).getD { cls := .type "tuple", data := .seq #[] }
def pairHO (h : Heap) (p : Addr × (Key × V)) : Addr × HO := (p.1, .frz (objAt h p.1) (.tup [kV p.2.1, p.2.2]))
theorem zip_fst {α β : Type} : ∀ (as : List α) (bs : List β), as.length = bs.length → (as.zip bs).map (·.1) = as
  | [], _, _ => by simp
  | _ :: _, [], h => by simp at h
  | a :: as, b :: bs, h => by rw [List.zip_cons_cons, List.map_cons, zip_fst as bs (by simpa using h)]
theorem paired_of {α β : Type} {F : α → β → Prop} : ∀ (as : List α) (bs : List β), as.length = bs.length → (∀ p ∈ as.zip bs, F p.1 p.2) → Paired F as bs
  | [], [], _, _ => .nil
  | [], _ :: _, h, _ => by simp at h
  | _ :: _, [], h, _ => by simp at h
  | a :: as, b :: bs, h, f => .cons (f (a, b) List.mem_cons_self) (paired_of as bs (by simpa using h) fun p hp => f p (List.mem_cons_of_mem _ hp))
def rItemsP : V → Hp → VK → Prop := fun x H Q => ∃ (d : Addr) (kvs : List (Key × V)), x = .ref d ∧ Rd H d (.dK kvs) ∧
  ∀ (H' : Hp) (p : Addr) (ts : List Addr), (∀ b o, H b = some o → H' b = some o) → H p = none → (∀ t ∈ ts, H t = none) → H' p = some (.lst (ts.map V.ref)) → Paired (fun (t : Addr) (q : Key × V) => ∃ o : Obj, o.dict = none ∧ H' t = some (.frz o (.tup [kV q.1, q.2]))) ts kvs → Q (.ref p) H'
section
variable {X : Cx} {e : Expr} {te : TE} {p apos cpos pos : Pos}
theorem items_laidP {pins : List (Addr × Obj)} {σ : L2.St} {H : Hp} {s : Shared} {h' : Heap} {tk : Nat} {kvs : List (Key × V)} {vs : List (Key × Value)} {acc : Array Value} {c : Nat} {as : List Addr} (I : Inv X pins σ H s) (hz : kvs.length ≤ sizeLine) (kv : KV kvs vs)
    (hk : ∀ b o, s.heap.get? b = some o → h'.get? b = some o) (hS : h'.get? s.heap.objs.size = some { cls := .type "list", dict := none, data := .seq acc c, slots := #[] }) (hl : as.length = vs.length) (hG : PySem.W.KdxG (mixKind X.prog X.w) vs s.heap.objs.size h' as) (hacc : acc.toList = as.map Value.ref) :
    ∃ H' : Hp, (∀ b o, H b = some o → H' b = some o) ∧ H s.heap.objs.size = none ∧ (∀ t ∈ as, H t = none) ∧ H' s.heap.objs.size = some (.lst (as.map V.ref)) ∧ Paired (fun (t : Addr) (q : Key × V) => ∃ o : Obj, o.dict = none ∧ H' t = some (.frz o (.tup [kV q.1, q.2]))) as kvs ∧ Inv X pins σ H' { s with heap := h', toks := tk } := by
  have lk : kvs.length = vs.length := Paired.length kv
  have la : as.length = kvs.length := by omega
  have hSn : s.heap.objs.size ∉ as := fun z => Nat.lt_irrefl _ (hG.above _ z)
  have nd : as.Nodup := List.Pairwise.imp (fun {a b} (h : a < b) => Nat.ne_of_lt h) hG.rise
  have new : ∀ t ∈ as, H t = none := fun t ht => I.hok.fresh (Nat.le_of_lt (hG.above t ht))
  have newS : H s.heap.objs.size = none := I.hok.fresh (Nat.le_refl _)
  have er : ((as.zip kvs).map (pairHO h')).map (·.1) = as := by
    rw [List.map_map]
    exact zip_fst as kvs la
  have ndr : (((as.zip kvs).map (pairHO h')).map (·.1)).Nodup := by rw [er]; exact nd
  have off : ∀ b, b ∉ as → b ≠ s.heap.objs.size → putP (upd H s.heap.objs.size (.lst (as.map V.ref))) ((as.zip kvs).map (pairHO h')) b = H b := fun b h1 h2 => by rw [putP_off _ _ (by rw [er]; exact h1), upd_ne h2]
  have atT : ∀ q ∈ as.zip kvs, putP (upd H s.heap.objs.size (.lst (as.map V.ref))) ((as.zip kvs).map (pairHO h')) q.1 = some (.frz (objAt h' q.1) (.tup [kV q.2.1, q.2.2])) := fun q hq => putP_at _ _ ndr (pairHO h' q) (List.mem_map.mpr ⟨q, hq, rfl⟩)
  have low : ∀ b o, s.heap.get? b = some o → b ∉ as ∧ b ≠ s.heap.objs.size := fun b o e => ⟨fun z => absurd (Heap.lt_size e) (Nat.not_lt.mpr (Nat.le_of_lt (hG.above b z))), Nat.ne_of_lt (Heap.lt_size e)⟩
  have kp : ∀ b u, H b = some u → (putP (upd H s.heap.objs.size (.lst (as.map V.ref))) ((as.zip kvs).map (pairHO h'))) b = some u := fun b u e => by
    rw [off b (fun z => by rw [new b z] at e; cases e) (fun z => by rw [z, newS] at e; cases e)]
    exact e
  have eS : putP (upd H s.heap.objs.size (.lst (as.map V.ref))) ((as.zip kvs).map (pairHO h')) s.heap.objs.size = some (.lst (as.map V.ref)) := by rw [putP_off _ _ (by rw [er]; exact hSn), upd_same]
  -- the tuples' objects
  have ob : ∀ q ∈ as.zip kvs, ∃ key x, h'.get? q.1 = some { cls := .type "tuple", data := .seq #[key, x] } ∧ RelV (kV q.2.1) key ∧ RelV q.2.2 x := fun q hq => by
    obtain ⟨j, hj⟩ := List.getElem?_of_mem hq
    obtain ⟨j1, j2⟩ := List.getElem?_zip_eq_some.mp hj
    obtain ⟨key, k, x, f1, f2, f3⟩ := hG.pairs j q.1 j1
    obtain ⟨qv, g1, g2, g3⟩ := LiI.paired_get kv j2
    rw [f1] at g1
    cases g1
    refine ⟨key, x, f3, ?_, g3⟩
    rw [g2]
    exact relV_key (show keyIs k key = true from f2)
  refine ⟨_, kp, newS, new, eS, paired_of as kvs la fun q hq => ?_, ?_⟩
  · obtain ⟨key, x, f3, _, _⟩ := ob q hq
    exact ⟨objAt h' q.1, by unfold objAt; rw [f3] <;> rfl, atT q hq⟩
  · refine I.call' (ch := []) rfl ⟨fun b o q _ _ _ => hk b o q, fun b o q _ _ _ => ⟨o.slots, hk b o q⟩, fun b o q n _ => ?_, fun b o q _ => ⟨o, hk b o q⟩, fun b xs q => kp b _ q, fun b o u q => kp b _ q, fun b ps q => ⟨#[], by rw [kp b _ q]; simp⟩⟩ (fun b u q => ?_) I.bare fun b z => by simp at z
    · obtain ⟨z1, z2⟩ := low b o q
      rw [off b z1 z2]
      exact n
    · by_cases hb : b ∈ as
      · have hb' : b ∈ (as.zip kvs).map (·.1) := by rw [zip_fst as kvs la]; exact hb
        obtain ⟨pq, hpq, e0⟩ := List.mem_map.mp hb'
        subst e0
        rw [atT pq hpq] at q
        cases q
        obtain ⟨key, x, f3, r1, r2⟩ := ob pq hpq
        have e5 : objAt h' pq.1 = { cls := .type "tuple", data := .seq #[key, x] } := by unfold objAt; rw [f3] <;> rfl
        rw [e5]
        exact ⟨f3, by show 2 ≤ sizeLine; decide, [key, x], .cons r1 (.cons r2 .nil), ⟨_, f3, rfl, _, rfl⟩⟩
      · by_cases hb2 : b = s.heap.objs.size
        · rw [hb2] at q ⊢
          rw [eS] at q
          cases q
          refine ⟨by rw [List.length_map]; omega, acc.toList, c, by rw [hacc]; exact LiI.vals_refs as, ?_⟩
          rw [Array.toArray_toList]
          exact hS
        · rw [off b hb hb2] at q
          exact (I.hok b u q).stay (fun d v _ y => hk d v y) (fun d y => kp d _ y) fun d xs y => kp d _ y
theorem pe_items (hc : X.calm = true) (he : PE X e te) (hg : Gl X "list") (hm : X.mg "list" = none) (hv : bootBuiltins "list" = some (.type "list")) (hbase : attributeBase e "items" X.env (eval e X.env) = eval e X.env := by rfl) (hline : (apos.endLine == cpos.line) = true := by rfl)
    (hs : starEach [.Call (.Attribute e "items" apos) [] [] cpos] X.env = (false, eval (.Call (.Attribute e "items" apos) [] [] cpos) X.env) :: starEach [] X.env := by rfl) :
    PE X (.Call (.Name "list" p) [.Call (.Attribute e "items" apos) [] [] cpos] [] pos) (fun σ H Q => te σ H fun x H1 => rItemsP x H1 Q) := by
  refine ⟨fun pins s σ H Q I hq => ?_⟩
  refine wpAny_Call_Name_kw (ld_blt I hg hm hv ?_)
  refine PyProof.Rows.callWith_type1 ?_ hs rfl
  rw [hs]
  show wpAny _ _ (spliced ((false, eval (.Call (.Attribute e "items" apos) [] [] cpos) X.env) :: backTo pos (starEach [] X.env))) _ _ s
  refine Calls.spliced_cons ?_
  refine wpAny_Call_method (T := "dict") (id := "dict.items") hbase rfl hline F.plainAttrs_dict F.slot_dict_items F.type_dict_items (thn (he.run pins s σ H _ I hq) fun u s1 ⟨x, H1, I1, rx, d, kvs, ex, hd, q⟩ => ?_)
  subst ex
  obtain rfl : u = Value.ref d := rx
  obtain ⟨hz, hs0, vs, kv, hdo⟩ := dk_rd I1.hok hd
  obtain ⟨ep, hat⟩ := hdo.dictAt
  have lk : kvs.length = vs.length := Paired.length kv
  have I2 : Inv X pins σ H1 { s1 with heap := s1.heap.push { cls := .type "dict_items", data := .fields #[.ref d] } } := I1.kept (t' := s1.toks) fun b ob q => Heap.get?_push_of_some _ q
  refine ⟨hdo.typeIs, hdo.mapOf.noDict, ?_⟩
  show wpAny _ _ (callWith cpos (.builtin "dict.items") [.ref d] [] []) _ X.xe s1
  refine method_meetsIn F.slot_dict_items F.entry_dict_items rfl (PySem.evalArgs_none ⟨rfl, hdo.typeIs, F.args_dict_items_1 _, _, meets_dict_items (mixKind X.prog X.w) d hs0, ⟨vs, hdo⟩, ?_⟩)
  refine Calls.spliced_nil ?_
  refine PySem.W.kdx_call (knd := mixKind X.prog X.w) (kvs := vs) (ep := ep) (I1.ok.hd hc) ⟨_, Heap.get?_push_size _ rfl, rfl, rfl⟩ (hat.push _) (by omega) fun h' tk acc c as hk hS hl hG hacc => ?_
  obtain ⟨H', k1, k2, k3, k4, k5, J⟩ := items_laidP (tk := tk) I2 hz kv hk hS hl hG hacc
  exact ⟨.ref _, H', J, rfl, q H' _ as k1 k2 k3 k4 k5⟩
end
def itemsD (kvs : List (Str × D)) : List D := kvs.map fun p => .tup [.str p.1, p.2]
def cItems (cd : C) : C := fun env Q => cd env fun x => match x with
  | .dct kvs => Q (.lst (itemsD kvs))
  | _ => False
theorem items_rep {K : PySem.W.Frag} {S : Sa} {R R' H' : Hp} (x : Ex R R') {H : Hp} (hr : ∀ t o, H t = none → H' t = some o → R' t = some o) : ∀ {ts : List Addr} {ws : List (Key × V)} {kvs : List (Str × D)}, RepK K S R ws kvs → (∀ t ∈ ts, H t = none) → Paired (fun (t : Addr) (q : Key × V) => ∃ o : Obj, o.dict = none ∧ H' t = some (.frz o (.tup [kV q.1, q.2]))) ts ws → RepL K S R' (ts.map V.ref) (itemsD kvs)
  | _, _, _, .nil, _, .nil => .nil
  | _, _, _, .cons h r, hn, .cons ⟨o, ho, q⟩ t => .cons (.tup ⟨o, ho, hr _ _ (hn _ List.mem_cons_self) q⟩ (.cons (.str _) (.cons (h.mono x) .nil))) (items_rep x hr r (fun u hu => hn u (List.mem_cons_of_mem _ hu)) t)
theorem de_items {X : Cx} {e : Expr} {cd : C} {p apos cpos pos : Pos} (hc : X.calm = true) (he : DE X e cd) (hg : Gl X "list") (hm : X.mg "list" = none) (hbase : attributeBase e "items" X.env (eval e X.env) = eval e X.env := by rfl) (hline : (apos.endLine == cpos.line) = true := by rfl)
    (hs : starEach [.Call (.Attribute e "items" apos) [] [] cpos] X.env = (false, eval (.Call (.Attribute e "items" apos) [] [] cpos) X.env) :: starEach [] X.env := by rfl) :
    DE X (.Call (.Name "list" p) [.Call (.Attribute e "items" apos) [] [] cpos] [] pos) (cItems cd) :=
  PEimp (pe_items hc he hg hm (by decide +kernel) hbase hline hs) fun σ H Q ⟨S, R, env, Qd, wd, er, hq, k⟩ => ⟨S, R, env, _, wd, er, hq, fun d v R1 H1 q w r => by
    cases r with
    | dct h1 h2 =>
      refine ⟨_, _, rfl, w.rh _ _ h1, fun H2 l ts k1 k2 k3 k4 k5 => ?_⟩
      have w2 : Wx S [] R1 H1 (newR R1 H1 H2) H2 := w.wd.news k1
      have fr : ∀ b, H1 b = none → ∀ o, H2 b = some o → newR R1 H1 H2 b = some o := fun b h o e => by rw [newR_at h]; exact e
      exact k _ _ _ H2 q (w.tr w2) (.lst (fr l k2 _ k4) (items_rep w2.rr (fun t o h e => fr t h o e) h2 k3 k5))
    | _ => exact q.elim⟩

/-! ### dict(..) -/
theorem pairs2 {X : Cx} {pins : List (Addr × Obj)} {σ : L2.St} {H : Hp} {s : Shared} (I : Inv X pins σ H s) : ∀ {ps : List Addr} {kvs : List (Key × V)}, Paired (fun p kv => SqT X.K H p [kV kv.1, kv.2]) ps kvs →
    ∃ (prs : List (Key × Value)) (pp : List (Value × Value)), KV kvs prs ∧ prs.length = ps.length ∧ pp.length = ps.length ∧ ∀ (j : Nat) (k v : Value), pp[j]? = some (k, v) → ∃ (b : Addr) (kk : Key), ps[j]? = some b ∧ prs[j]? = some (kk, v) ∧ keyIs kk k = true ∧ IsTup s.heap b #[k, v]
  | _, _, .nil => ⟨[], [], .nil, rfl, rfl, fun j k v e => by simp at e⟩
  | _, _, .cons (a := p) (b := kv) h t => by
    obtain ⟨prs, pp, r, hl, hl2, hp⟩ := pairs2 I t
    obtain ⟨its, rv, ht, _⟩ := I.tuple h
    obtain ⟨u, y, ei, ru, ry⟩ := vals2 rv
    subst ei
    refine ⟨(kv.1, y) :: prs, (u, y) :: pp, .cons ⟨rfl, ry⟩ r, by rw [List.length_cons, List.length_cons, hl], by rw [List.length_cons, List.length_cons, hl2], fun j k v e => ?_⟩
    cases j with
    | zero =>
      have e' : (u, y) = (k, v) := Option.some.inj e
      cases e'
      exact ⟨p, kv.1, rfl, rfl, kV_is (P := X.prog) (w := X.w) ru, ht⟩
    | succ j =>
      obtain ⟨b, kk, e1, e2, e3⟩ := hp j k v (by simpa using e)
      exact ⟨b, kk, by simpa using e1, by simpa using e2, e3⟩
/-- dict(x), x a tuple of pairs -/
def rDictT (K : PySem.W.Frag) : List V → Hp → VK → Prop := fun xs H Q => ∃ (a : Addr) (o : Obj) (ps : List Addr) (kvs : List (Key × V)), xs = [.ref a] ∧ o.dict = none ∧ H a = some (.frz o (.tup (ps.map V.ref))) ∧ Paired (fun p kv => SqT K H p [kV kv.1, kv.2]) ps kvs ∧
  ∀ p, H p = none → Q (.ref p) (upd H p (.dK (mergeK [] kvs)))
theorem call_dictT {X : Cx} (hcalm : X.calm = true) : CallR X (.type "dict") (rDictT X.K) := by
  intro pins s σ H xs us Q I r q
  obtain ⟨a, o, ps, kvs, ex, hod, hq, hp, q⟩ := q
  subst ex
  obtain ⟨u, eu, rx⟩ := vals1 r
  subst eu
  cases rx
  obtain ⟨ho, hz, its, rv, o', ho', hc, n, hd⟩ := I.hok a _ hq
  rw [ho] at ho'
  cases ho'
  have ei := refs_at rv
  subst ei
  rw [List.length_map] at hz
  obtain ⟨prs, pp, rel, hl, hl2, hpr⟩ := pairs2 I hp
  have ok : (fun h : Heap => PlainSeq "tuple" h a (ps.map Value.ref).toArray ∧ PairItems h (ps.map Value.ref).toArray (fun j => ps.getD j 0) pp) s.heap := by
    refine ⟨⟨o, n, ho, hc, hod, hd⟩, by simp [hl2], fun j k v e => ?_⟩
    obtain ⟨b, kk, e1, e2, e3, e4⟩ := hpr j k v e
    have eb : ps.getD j 0 = b := by rw [List.getD_eq_getElem?_getD, e1] <;> rfl
    refine ⟨by show _ = some (Value.ref (ps.getD j 0)); rw [eb]; simp [e1], ?_⟩
    show PairAt s.heap (ps.getD j 0) k v
    rw [eb]
    exact .inl e4
  refine PySem.call_dict_pairs (knd := mixKind X.prog X.w) (kvs := prs) (PairArg.tuple a (ps.map Value.ref).toArray (fun j => ps.getD j 0) pp) (I.ok.hd hcalm) ok ⟨by omega, fun i key v e => ?_⟩ (by omega) fun h' tk hd' k => ?_
  · obtain ⟨b, kk, e1, e2, e3, e4⟩ := hpr i key v e
    exact ⟨kk, e2, e3⟩
  · have hm : (s.heap.objs.size == sysModules) = false := beq_eq_false_iff_ne.mpr (Nat.ne_of_gt I.big)
    have hlen : (mergeK [] kvs).length ≤ sizeLine := by
      refine Nat.le_trans (length_mergeK kvs []) ?_
      rw [List.length_nil, Nat.zero_add, rel.length, hl]
      exact hz
    exact ⟨.ref s.heap.objs.size, upd H s.heap.objs.size (.dK (mergeK [] kvs)), I.laid (t' := tk) (fun b o e => k b o (fun z => nomatch z) e) (Nat.le_refl _) (show ObjOk X.prog X.w _ _ _ (.dK (mergeK [] kvs)) from ⟨hlen, hm, merged [] prs, KV.merge rel .nil, hd'⟩), rfl, q _ (I.hok.fresh (Nat.le_refl _))⟩
def fDict : List D → (D → Prop) → Prop
  | [.dct kvs], Q => Q (.dct kvs)
  | [.lst ds], Q => ∃ kvs, ds = itemsD kvs ∧ Q (.dct (mergeD [] kvs))
  | [.tup ds], Q => ∃ kvs, ds = itemsD kvs ∧ Q (.dct (mergeD [] kvs))
  | _, _ => False
theorem pairs_v {K : PySem.W.Frag} {S : Sa} {R H : Hp} (x : Rx R H) : ∀ {kvs : List (Str × D)} {vs : List V}, RepL K S R vs (itemsD kvs) → ∃ (ps : List Addr) (ws : List (Key × V)), vs = ps.map V.ref ∧ Paired (fun p kv => SqT K H p [kV kv.1, kv.2]) ps ws ∧ RepK K S R ws kvs
  | [], _, .nil => ⟨[], [], rfl, .nil, .nil⟩
  | (k, d) :: kvs, _, .cons a b => by
    obtain ⟨ps, ws, e1, p, r⟩ := pairs_v x (kvs := kvs) b
    obtain ⟨t, us, e2, h1, h2⟩ := tup_v a
    obtain ⟨v, w, e3, r1, r2⟩ := two_v h2
    obtain rfl := str_v r1
    subst e2 e3
    exact ⟨t :: ps, (.inr k, w) :: ws, by rw [e1]; rfl, .cons (h1.sq x) p, .cons r2 r⟩
def rDict3 (K : PySem.W.Frag) : List V → Hp → VK → Prop := fun xs H Q => (∃ (a : Addr) (ps : List Addr) (kvs : List (Key × V)), xs = [.ref a] ∧ SqL K H a (ps.map V.ref) ∧ Paired (fun p kv => SqT K H p [kV kv.1, kv.2]) ps kvs ∧
    ∀ p, H p = none → Q (.ref p) (upd H p (.dK (mergeK [] kvs)))) ∨ (rDictT K xs H Q ∨ ∃ (a : Addr) (kvs : List (Key × V)), xs = [.ref a] ∧ Rd H a (.dK kvs) ∧ ∀ p, H p = none → Q (.ref p) (upd H p (.dK kvs)))
section
variable {X : Cx} {p pos : Pos} {e f i o : Expr} {ca : CA} {cd ck cx ce : C} {apos cpos : Pos}
theorem df_dict (hc : X.calm = true) (hg : Gl X "dict") (hm : X.mg "dict" = none) (ha : DL X [e] ca) (he : starEach [e] X.env = (false, eval e X.env) :: starEach [] X.env := by rfl) : DF X (.Call (.Name "dict" p) [e] [] pos) (cCB fDict ca) :=
  PEimp (pe_callTy ((call_dictP hc).or ((call_dictT hc).or call_dictD)) hg hm (by decide +kernel) ha (by decide) (by decide) he rfl) fun σ H Q ⟨S, R, env, Qd, wd, er, hq, k⟩ => ⟨S, R, env, _, wd, er, hq, fun ds vs R1 H1 q w r => by
    have fin : ∀ (ws : List (Key × V)) (kvs : List (Str × D)) (l : Addr), RepK X.K S R1 ws kvs → Qd (.dct kvs) → H1 l = none → Q (.ref l) (upd H1 l (.dK ws)) := fun ws kvs l rk hd hl => by
      obtain ⟨n1, n2⟩ := w.wd.new_ne hl
      exact k _ l R1 _ hd (w.tr (w.wd.laid hl)) (w.hn' hl) ⟨w.wd.new_r hl, n1, n2, _, upd_same, .dct rk⟩
    unfold fDict at q
    split at q
    · obtain ⟨v, rfl, q0⟩ := one_v r
      obtain ⟨a, ws, rfl, h1, h2⟩ := dct_v q0
      exact .inr (.inr ⟨a, ws, rfl, w.rh _ _ h1, fun l hl => fin _ _ l h2 q hl⟩)
    · obtain ⟨kvs, e, q⟩ := q
      subst e
      obtain ⟨v, rfl, q0⟩ := one_v r
      obtain ⟨a, us, rfl, h1, h2⟩ := lst_v q0
      obtain ⟨ps, ws, e1, p1, r1⟩ := pairs_v w.rh h2
      subst e1
      exact .inl ⟨a, ps, ws, rfl, .inl (w.rh _ _ h1), p1, fun l hl => fin _ _ l (RepK.merge .nil r1) q hl⟩
    · obtain ⟨kvs, e, q⟩ := q
      subst e
      obtain ⟨v, rfl, q0⟩ := one_v r
      obtain ⟨a, us, rfl, ⟨o, ho, h1⟩, h2⟩ := tup_v q0
      obtain ⟨ps, ws, e1, p1, r1⟩ := pairs_v w.rh h2
      subst e1
      exact .inr (.inl ⟨a, o, ps, ws, rfl, ho, w.rh.nf _ _ _ h1, p1, fun l hl => fin _ _ l (RepK.merge .nil r1) q hl⟩)
    · exact q.elim⟩

/-! ### d.get(k, x), k a text or None -/
def tDGetN (td ty tx : TE) : TE := fun σ H Q => td σ H fun x H1 => ∃ a, x = .ref a ∧ IsD H1 a ∧ ty σ H1 fun y H2 => tx σ H2 fun z H3 => (∃ o, DGet H3 a y o ∧ Q (o.getD z) H3) ∨ (y = .non ∧ (∃ kvs, Rd H3 a (.dK kvs)) ∧ Q z H3)
theorem pe_dgetN {td ty tx : TE} (hu : X.A.units + 1 < cLine) (ho : PE X o td) (he : PE X e ty) (hf : PE X f tx) (m : M2 X o "get" apos e f cpos) : PE X (.Call (.Attribute o "get" apos) [e, f] [] cpos) (tDGetN td ty tx) := by
  refine ⟨fun pins s σ H Q I h => ?_⟩
  refine wpAny_Call_method m.base m.few m.line PySem.F.plainAttrs_dict PySem.F.slot_dict_get PySem.F.type_dict_get (thn (ho.run pins s σ H _ I h) fun u s1 ⟨x, H1, I1, rx, a, ex, d, q1⟩ => ?_)
  subst ex
  obtain rfl : u = Value.ref a := rx
  obtain ⟨t1, t2, _⟩ := isD_at I1 d
  refine ⟨t1, t2, ?_⟩
  rw [m.trees]
  refine Calls.callWith_builtin rfl (Calls.evalArgs_plain (Calls.spliced_cons (thn (he.run pins s1 σ H1 _ I1 q1) fun iv s2 ⟨y, H2, I2, ry, q2⟩ =>
    Calls.spliced_cons (thn (hf.run pins s2 σ H2 _ I2 q2) fun fv s3 ⟨z, H3, I3, rz, hh⟩ => Calls.spliced_nil ?_))))
  rcases hh with ⟨ov, g, q3⟩ | ⟨ey, ⟨kvs, hd⟩, q3⟩
  · exact d_get2 hu I3 g ry rz fun w' s4 I4 rw' => ⟨_, H3, I4, rw', q3⟩
  · subst ey
    obtain rfl : iv = Value.none := ry
    obtain ⟨_, hs, vs, _, dd⟩ := dk_rd I3.hok hd
    obtain ⟨fm, hm, hf⟩ := none_map dd
    refine call_meetsIn PySem.F.slot_dict_get dd.typeIs PySem.F.entry_dict_get (PySem.F.args_dict_get_3 _ _ _) (meets_dict_get_default (noneKind X.prog X.w) (k := none) a rfl hs fv) ⟨fm, hm, ?_⟩
    rw [hf]
    exact ⟨z, H3, I3.tok _, rz, q3⟩
def fGetN : D → D → D → (D → Prop) → Prop
  | .dct kvs, .str k, z, Q => Q ((lk k kvs).getD z)
  | .dct _, .non, z, Q => Q z
  | _, _, _, _ => False
def cGetN (cd ck cx : C) : C := fun env Q => cd env fun x => match x with
  | .dct _ => ck env fun y => cx env fun z => fGetN x y z Q
  | _ => False
theorem de_getN (hu : X.A.units + 1 < cLine) (ho : DE X o cd) (he : DE X i ck) (hf : DE X f cx) (m : M2 X o "get" apos i f cpos := by exact ⟨rfl, rfl, rfl, rfl⟩) : DE X (.Call (.Attribute o "get" apos) [i, f] [] cpos) (cGetN cd ck cx) :=
  PEimp (pe_dgetN hu ho he hf m) fun σ H Q ⟨S, R, env, Qd, wd, er, hq, k⟩ => ⟨S, R, env, _, wd, er, hq, fun x v R1 H1 q w r => by
    cases r with
    | @dct a ws kv h1 h2 =>
      refine ⟨_, rfl, .inl ⟨_, w.rh _ _ h1⟩, S, R1, env, _, w.wd, er.step w, q, fun y u R2 H2 q2 w2 r2 => ⟨S, R2, env, _, w2.wd, (er.step w).step w2, q2, fun z t R3 H3 q3 w3 r3 => ?_⟩⟩
      have w23 := w2.rr.trans w3.rr
      cases r2 with
      | str k' =>
        have q3 : Qd ((lk k' kv).getD z) := q3
        refine .inl ⟨_, DGet_of (w3.rh _ _ (w23 _ _ h1)), ?_⟩
        obtain ⟨i1, i2⟩ := h2.lk (k := k')
        cases e : lk k' kv with
        | none => rw [e] at q3; rw [i1 e]; exact k _ _ R3 H3 q3 ((w.tr w2).tr w3) r3
        | some d =>
          rw [e] at q3
          obtain ⟨v, e1, r4⟩ := i2 d e
          rw [e1]
          exact k _ _ R3 H3 q3 ((w.tr w2).tr w3) (r4.mono w23)
      | non => exact .inr ⟨rfl, ⟨_, w3.rh _ _ (w23 _ _ h1)⟩, k _ _ R3 H3 q3 ((w.tr w2).tr w3) r3⟩
      | _ => exact q3.elim
    | _ => exact q.elim⟩

/-! ### abs, xs[::-1] -/
def fAbs : List D → (D → Prop) → Prop
  | [.int i], Q => Q (.int (if i < 0 then -i else i))
  | _, _ => False
theorem o_abs {K : PySem.W.Frag} : CallD K (fun xs H Q => ∃ i, xs = [.int i] ∧ Q (.int (if i < 0 then -i else i)) H) fAbs := by
  intro S R H xs vs Qd Q wd r h k
  unfold fAbs at h
  split at h
  · obtain ⟨v, rfl, q0⟩ := one_v r
    obtain rfl := int_v q0
    exact ⟨_, rfl, done_v wd k h (.int _)⟩
  · exact h.elim
theorem de_abs (hg : Gl X "abs") (hm : X.mg "abs" = none) (ha : DL X [e] ca) (he : starEach [e] X.env = (false, eval e X.env) :: starEach [] X.env := by rfl) : DE X (.Call (.Name "abs" p) [e] [] pos) (cCB fAbs ca) :=
  de_callB call_abs o_abs hg hm (by decide +kernel) ha (by decide) (by decide) he rfl
end
end E64
/-! {**d, k: v} -/
namespace E64
open PySem PySem.Spec PyProof.Rows L2
open Sem (wp)
section
variable {prog : Program} {w : World} {A : Around} {E : Value → Shared → Prop} {s : Shared}
theorem wp_dictPut {d : Addr} {kvs : List (Key × Value)} {k : Key} {key v : Value} {Q : Unit → Shared → Prop} (hkey : (mixKind prog w).is k key = true) (hm : s.heap.DictOf (mixKind prog w) d kvs)
    (hQ : ∀ h', h'.DictOf (mixKind prog w) d (stored kvs k v) → Heap.SameBut d s.heap h' → Q () { s with heap := h' })
    (hsz : kvs.length ≤ sizeLine) : wpAny (model prog w) A (dictPut d ((mixKind prog w).hash k) key v) Q E s := by
  obtain ⟨o, es, ep, ho, hc, hd, hk, hp, hn⟩ := hm
  have hes : es.size ≤ sizeLine := by
    have e1 := hp.length
    have e2 : es.toList.length = es.size := by simp
    omega
  unfold dictPut
  refine wpAny_bind (wpAny_dictFind_of hkey ho hd hk ?_)
  have hidx : (es.findIdx? fun e => (mixKind prog w).is k e.key) = kvs.findIdx? fun kv => decide (kv.1 = k) := by
    rw [← hp.findIdx k]; obtain ⟨l⟩ := es; simp
  cases hi : es.findIdx? fun e => (mixKind prog w).is k e.key with
  | some i =>
    refine wpAny_updateDict ho hd (hQ _ ⟨_, _, ep, Heap.get?_update_self _ ho (Obj.isFreed_of_dict (Obj.data_mapDict hd _)),
      hc.mapDict _, Obj.data_mapDict hd _, hk.modify _ _, ?_, ?_⟩ (Heap.SameBut.update ..))
    · rw [stored, if_pos (any_of_findIdx_some (hidx ▸ hi))]
      have hl : (es.toList.findIdx? fun e => (mixKind prog w).is k e.key) = some i := by rw [← hi]; obtain ⟨l⟩ := es; simp
      have := hp.modify hn hl v
      obtain ⟨l⟩ := es
      simpa using this
    · rw [stored, if_pos (any_of_findIdx_some (hidx ▸ hi)), keys_map_store]; exact hn
  | none =>
    have hnot : k ∉ kvs.map (·.1) := not_mem_of_findIdx_none (hidx ▸ hi)
    have hany : ¬ (kvs.any fun kv => decide (kv.1 = k)) = true := by
      rw [List.any_eq_true]; rintro ⟨kv, hkv, he⟩
      exact hnot (List.mem_map.mpr ⟨kv, hkv, of_decide_eq_true he⟩)
    refine wpAny_updateDictKeys (hz := hes) ho hd (hQ _ ⟨_, _, ep + 1, Heap.get?_update_self _ ho (Obj.isFreed_of_dict (Obj.data_mapDictKeys hd _)),
      hc.mapDictKeys _, Obj.data_mapDictKeys hd _, hk.push hkey _, ?_, ?_⟩ (Heap.SameBut.update ..))
    · rw [stored, if_neg hany]
      have := hp.append hkey ((mixKind prog w).hash k) v
      obtain ⟨l⟩ := es
      simpa using this
    · rw [stored, if_neg hany, List.map_append, List.nodup_append]
      refine ⟨hn, by simp, ?_⟩
      intro a ha b hb
      simp only [List.map_cons, List.map_nil, List.mem_singleton] at hb
      subst hb
      exact fun e => hnot (e ▸ ha)
theorem key_noref {k : Key} {v : Value} {a : Addr} (h : keyIs k v = true) : v ≠ .ref a := by
  intro e
  subst e
  rcases keyIs_shape h with ⟨_, _, _, e⟩ | ⟨_, _, _, e⟩ <;> cases e
theorem wp_mergeMap {d a : Addr} {kvs more : List (Key × Value)} {Q : Unit → Shared → Prop} (hne : d ≠ a) (hS : (a == sysModules) = false) (hd : s.heap.DictOf (mixKind prog w) d kvs) (ha : s.heap.DictOf (mixKind prog w) a more)
    (hQ : ∀ h', h'.DictOf (mixKind prog w) d (merged kvs more) → h'.DictOf (mixKind prog w) a more → Heap.SameBut d s.heap h' → Q () { s with heap := h' }) (hsz : kvs.length + more.length ≤ sizeLine) : wpAny (model prog w) A (mergeMapping d (.ref a) false) Q E s := by
  obtain ⟨od, esd, epd, hod, hcd, hdd, hkd, hpd, hnd⟩ := id hd
  obtain ⟨oo, eso, epo, hoo, hco, hdo', hko, hpo, hno⟩ := id ha
  have hlen : more.length = eso.size := by rw [← hpo.length]; simp
  unfold mergeMapping
  refine wpAny_bind (wpAny_isInstance ha.typeIs isSubtype_dict_dict ?_)
  rw [if_pos rfl]
  refine wpAny_bind (wpAny_specialOf ha.typeIs F.slot_dict_iter.lookup ?_)
  refine wpAny_bind (wpAny_pure ?_)
  rw [beq_self_eq_true]
  dsimp only
  rw [if_neg (by rw [hS]; exact Bool.false_ne_true)]
  refine wpAny_bind (wpAny_dictEntries hod hdd ?_)
  have loop : wpAny (model prog w) A (do
      let l ← dictEntries a
      let epoch ← dictEpoch a
      forIn (List.range l.size) PUnit.unit fun i (_ : PUnit) => (do
          let l' ← dictEntries a
          match l'[i]? with
            | some e => do
              holding [e.key, e.val] (dictPut d e.hash e.key e.val)
              let ep' ← dictEpoch a
              if (ep' != epoch) = true then do
                  (unsupported "dict.changed-during-merge" : Sem PUnit)
                  pure (ForInStep.yield PUnit.unit)
                else pure (ForInStep.yield PUnit.unit)
            | _ => do
              (unsupported "dict.changed-during-merge" : Sem PUnit)
              pure (ForInStep.yield PUnit.unit) : Sem (ForInStep PUnit))
      pure ()) Q E s := by
    refine wpAny_bind (wpAny_dictEntries hoo hdo' ?_)
    refine wpAny_bind (wpAny_dictEpoch hoo hdo' ?_)
    refine wpAny_bind ?_
    rw [List.range_eq_range']
    refine wpAny_forIn_list _
      (fun rest _ s' => ∃ h' i, s' = { s with heap := h' } ∧ rest = List.range' i (eso.size - i) ∧ i ≤ eso.size ∧ h'.DictOf (mixKind prog w) d (merged kvs (more.take i)) ∧ h'.get? a = some oo ∧ Heap.SameBut d s.heap h')
      _ ?_ ?_ _ _ ⟨s.heap, 0, rfl, by simp, Nat.zero_le _, by simpa [merged] using hd, hoo, Heap.SameBut.refl _ _⟩
    · rintro x rest b s' ⟨h', i, rfl, hr, hi, hd', hoo', hs'⟩
      have hlt : i < eso.size := by
        rcases Nat.lt_or_ge i eso.size with h | h
        · exact h
        · rw [Nat.sub_eq_zero_of_le h] at hr; simp at hr
      obtain ⟨rfl, hrest⟩ : x = i ∧ rest = List.range' (i + 1) (eso.size - (i + 1)) := by
        have e : eso.size - i = (eso.size - (i + 1)) + 1 := by omega
        rw [e, List.range'_succ] at hr
        injection hr with h1 h2
        exact ⟨h1, h2⟩
      refine wpAny_bind (wpAny_dictEntries hoo' hdo' ?_)
      rw [Array.getElem?_eq_getElem hlt]
      obtain ⟨kv, hkv⟩ : ∃ kv, more[x]? = some kv := ⟨more[x]'(by rw [hlen]; exact hlt), List.getElem?_eq_getElem _⟩
      obtain ⟨k, v⟩ := kv
      obtain ⟨hkey, hval⟩ := hpo.get? (e := eso[x]) (by simp [hlt]) hkv
      obtain ⟨k', hkey', hhash⟩ := hko eso[x] (Array.getElem_mem hlt)
      obtain rfl : k' = k := (mixKind prog w).inj _ _ _ hkey' hkey
      show wpAny _ _ (holding [eso[x].key, eso[x].val] (dictPut d eso[x].hash eso[x].key eso[x].val) >>= _) _ _ _
      rw [hhash, hval]
      have hmx : (merged kvs (more.take x)).length ≤ sizeLine := by
        have e1 := merged_length_le kvs (more.take x)
        have e2 : (more.take x).length ≤ more.length := by rw [List.length_take]; omega
        omega
      refine wpAny_bind (wpAny_holding (wp_dictPut (hsz := hmx) hkey hd' fun h'' hd'' hs'' => ?_))
      have hoo'' : h''.get? a = some oo := (hs''.2 a (Ne.symm hne)).trans hoo'
      refine wpAny_bind (wpAny_dictEpoch hoo'' hdo' ?_)
      rw [if_neg (by simp)]
      exact wpAny_pure ⟨h'', x + 1, rfl, hrest, hlt, by rw [merged_take_succ kvs more x (k', v) hkv]; exact hd'', hoo'', hs'.trans hs''⟩
    · rintro b s' ⟨h', i, rfl, hr, hi, hd', hoo', hs'⟩
      have hin : i = eso.size := by
        rcases Nat.lt_or_ge i eso.size with h | h
        · have e : eso.size - i = (eso.size - (i + 1)) + 1 := by omega
          rw [e, List.range'_succ] at hr; exact nomatch hr
        · exact Nat.le_antisymm hi h
      refine wpAny_pure (hQ h' ?_ ⟨oo, eso, epo, hoo', hco, hdo', hko, hpo, hno⟩ hs')
      rw [hin, ← hlen, List.take_length] at hd'; exact hd'
  split
  · refine wpAny_bind (wpAny_dictEntries hoo hdo' ?_)
    refine wpAny_bind ?_
    rw [← Array.forIn_toList]
    refine wpAny_forIn_list _ (fun rest _ s' => s' = s ∧ ∀ e ∈ rest, ∃ k, keyIs k e.key = true) _ ?_ ?_ _ _ ⟨rfl, fun e he => ?_⟩
    · rintro x rest b s' ⟨rfl, hk⟩
      obtain ⟨k, hkx⟩ := hk x List.mem_cons_self
      have hr : ∀ a, x.key ≠ .ref a := fun a => key_noref hkx
      split
      · rename_i a' e'
        exact absurd e' (hr a')
      · exact wpAny_pure ⟨rfl, fun e he => hk e (List.mem_cons_of_mem _ he)⟩
    · rintro b s' ⟨rfl, _⟩
      exact loop
    · obtain ⟨k, h1, _⟩ := hko e (by simpa using he)
      exact ⟨k, h1⟩
  · exact loop
theorem loop_gather (f : (Option (Sem Value) × Sem Value) → (Option Addr × List (Sem Value × Sem Value)) → Sem (ForInStep (Option Addr × List (Sem Value × Sem Value)))) (main : Option Addr)
    (hf : ∀ (p : Sem Value × Sem Value) (run : List (Sem Value × Sem Value)), run.length + 1 < 17 → f (some p.1, p.2) (main, run) = pure (.yield (main, run ++ [p]))) :
    ∀ (items run : List (Sem Value × Sem Value)), run.length + items.length < 17 → forIn (items.map fun p => (some p.1, p.2)) (main, run) f = pure (main, run ++ items)
  | [], run, _ => by simp
  | p :: rest, run, h => by
    rw [List.map_cons, List.forIn_cons, hf p run (by simp at h; omega), pure_bind]
    have := loop_gather f main hf rest (run ++ [p]) (by simp at h ⊢; omega)
    simpa using this
abbrev DK (prog : Program) (w : World) (h : Heap) (d : Addr) (kvs : List (Key × Value)) : Prop := h.DictOf (mixKind prog w) d kvs
/-- the pairs behind the stars: made in a dict of their own, then carried over -/
def Tail (prog : Program) (w : World) (A : Around) (E : Value → Shared → Prop) (d : Addr) (pairs : List (Sem Value × Sem Value)) (Q : Value → Shared → Prop) (s : Shared) : Prop :=
  wpAny (model prog w) A (evalPairs pairs) (fun vs s3 => ∃ ws acc, Carries (mixKind prog w) vs ws ∧ DK prog w s3.heap s.heap.objs.size [] ∧ d ≠ s.heap.objs.size ∧ (s.heap.objs.size == sysModules) = false ∧ acc.length + ws.length ≤ sizeLine ∧
    ∀ h', DK prog w h' s.heap.objs.size (merged [] ws) → Heap.SameBut s.heap.objs.size s3.heap h' → DK prog w h' d acc ∧ ∀ h'', DK prog w h'' d (merged acc (merged [] ws)) → Heap.SameBut d h' h'' → Q (.ref d) { s3 with heap := h'', toks := s3.toks + vs.length }) E { s with heap := s.heap.push { cls := .type "dict", data := .dict #[] } }
/-- **x: carried over into d -/
def Star (prog : Program) (w : World) (A : Around) (d : Addr) (Q : Shared → Prop) (m : Value) (s : Shared) : Prop :=
  ∃ a acc more, m = .ref a ∧ d ≠ a ∧ (a == sysModules) = false ∧ DK prog w s.heap d acc ∧ DK prog w s.heap a more ∧ acc.length + more.length ≤ sizeLine ∧ ∀ h', DK prog w h' d (merged acc more) → Heap.SameBut d s.heap h' → Q { s with heap := h' }
theorem wp_star {d : Addr} {Q : Shared → Prop} {m : Value} {E1 : Value → Shared → Prop} {R : Unit → Shared → Prop} (h : Star prog w A d Q m s) (hR : ∀ s', Q s' → R () s') : wpAny (model prog w) A (mergeMapping d m false) R E1 s := by
  obtain ⟨a, acc, more, rfl, ne, hS, hd, ha, hz, q⟩ := h
  exact wp_mergeMap ne hS hd ha (fun h' d1 _ sb => hR _ (q h' d1 sb)) hz
theorem dict_new (h : Heap) : DK prog w (h.push { cls := .type "dict", data := .dict #[] }) h.objs.size [] := Heap.DictOf.new h
theorem carries_len {vs : List (Value × Value)} {ws : List (Key × Value)} (c : Carries (mixKind prog w) vs ws) : (merged ([] : List (Key × Value)) ws).length ≤ ws.length := by
  have := merged_length_le ([] : List (Key × Value)) ws
  simpa using this
theorem wp_tail {d : Addr} {pairs : List (Sem Value × Sem Value)} {Q : Value → Shared → Prop} {K : Option Addr → Sem Value} (h0 : pairs ≠ []) (hl : pairs.length ≤ 15) (h : Tail prog w A E d pairs Q s) (hK : ∀ s' d', Q (.ref d') s' → wpAny (model prog w) A (K (some d')) Q E s')
    {F : Addr → Value → Sem Unit} : wpAny (model prog w) A ((do
      let sub ← holding [.ref d] (subDict pairs)
      (holding [.ref d, .ref sub] (mergeMapping d (.ref sub) false)).onRaise (F sub)
      pure (some d)) >>= K) Q E s := by
  refine wpAny_bind ?_
  refine wpAny_bind (wpAny_holding (wpAny_subDict (knd := mixKind prog w) hl ?_))
  refine wpAny_mono h (fun vs s3 ⟨ws, acc, c, e0, ne, hS, hz, q⟩ => ⟨ws, c, e0, fun h' d1 sb => ?_⟩) fun _ _ e => e
  obtain ⟨e1, q⟩ := q h' d1 sb
  refine wpAny_bind (wpAny_onRaise (wpAny_holding (wp_mergeMap ne hS e1 d1 (fun h'' d2 _ sb2 => ?_) ?_)))
  · exact wpAny_pure (hK _ _ (q h'' d2 sb2))
  · have := carries_len c
    omega
theorem wp_disp1 {v : Sem Value} {pairs : List (Sem Value × Sem Value)} {Q : Value → Shared → Prop} (h0 : pairs ≠ []) (hl : pairs.length ≤ 15)
    (h : wpAny (model prog w) A v (Star prog w A s.heap.objs.size fun s2 => Tail prog w A E s.heap.objs.size pairs Q s2) E { s with heap := s.heap.push { cls := .type "dict", data := .dict #[] } }) :
    wpAny (model prog w) A (dictDisplay ((none, v) :: pairs.map fun p => (some p.1, p.2))) Q E s := by
  unfold dictDisplay
  dsimp only
  rw [List.forIn_cons]
  refine wpAny_bind (wpAny_bind ?_)
  dsimp only
  rw [if_pos List.isEmpty_nil]
  refine wpAny_bind (wpAny_pure ?_)
  dsimp only
  refine wpAny_bind (wpAny_alloc ?_)
  refine wpAny_bind (wpAny_holding (wpAny_mono h (fun m s1 hm => ?_) fun _ _ e => e))
  refine wpAny_bind (wpAny_onRaise (wpAny_tryCatch (wpAny_onRaise (wpAny_holding (wp_star hm fun s2 ht => ?_)))))
  refine wpAny_pure ?_
  dsimp only
  rw [loop_gather _ _ (fun p run hr => by
    have hne : ((run ++ [(p.1, p.2)]).length == 17) = false := by simp; omega
    simp only [hne, Bool.false_eq_true, if_false]) pairs [] (by simp; omega)]
  refine wpAny_pure ?_
  dsimp only
  rw [List.nil_append, if_neg (by simpa using h0)]
  exact wp_tail h0 hl ht fun s' d' q => wpAny_pure q
theorem wp_disp2 {v1 v2 : Sem Value} {pairs : List (Sem Value × Sem Value)} {Q : Value → Shared → Prop} (h0 : pairs ≠ []) (hl : pairs.length ≤ 15)
    (h : wpAny (model prog w) A v1 (Star prog w A s.heap.objs.size fun s2 => wpAny (model prog w) A v2 (Star prog w A s.heap.objs.size fun s3 => Tail prog w A E s.heap.objs.size pairs Q s3) E s2) E { s with heap := s.heap.push { cls := .type "dict", data := .dict #[] } }) :
    wpAny (model prog w) A (dictDisplay ((none, v1) :: (none, v2) :: pairs.map fun p => (some p.1, p.2))) Q E s := by
  unfold dictDisplay
  dsimp only
  rw [List.forIn_cons]
  refine wpAny_bind (wpAny_bind ?_)
  dsimp only
  rw [if_pos List.isEmpty_nil]
  refine wpAny_bind (wpAny_pure ?_)
  dsimp only
  refine wpAny_bind (wpAny_alloc ?_)
  refine wpAny_bind (wpAny_holding (wpAny_mono h (fun m s1 hm => ?_) fun _ _ e => e))
  refine wpAny_bind (wpAny_onRaise (wpAny_tryCatch (wpAny_onRaise (wpAny_holding (wp_star hm fun s2 ht => ?_)))))
  refine wpAny_pure ?_
  dsimp only
  rw [List.forIn_cons]
  refine wpAny_bind ?_
  dsimp only
  rw [if_pos List.isEmpty_nil]
  refine wpAny_bind (wpAny_pure ?_)
  dsimp only
  refine wpAny_bind (wpAny_pure ?_)
  refine wpAny_bind (wpAny_holding (wpAny_mono ht (fun m s1 hm => ?_) fun _ _ e => e))
  refine wpAny_bind (wpAny_onRaise (wpAny_tryCatch (wpAny_onRaise (wpAny_holding (wp_star hm fun s2 ht => ?_)))))
  refine wpAny_pure ?_
  dsimp only
  rw [loop_gather _ _ (fun p run hr => by
    have hne : ((run ++ [(p.1, p.2)]).length == 17) = false := by simp; omega
    simp only [hne, Bool.false_eq_true, if_false]) pairs [] (by simp; omega)]
  refine wpAny_pure ?_
  dsimp only
  rw [List.nil_append, if_neg (by simpa using h0)]
  exact wp_tail h0 hl ht fun s' d' q => wpAny_pure q
end
end E64
/-! {**d, k: v}: the rules -/
namespace E64
open PySem PySem.Spec PyProof.Rows L2
open Sem (wp)
def tTail (trs : List (TE × TE)) (p : Addr) (kvs : List (Key × V)) (Q : VK) (σ : L2.St) (H : Hp) : Prop := ∀ q, H q = none → tPairs trs σ (upd H q (.dK [])) fun ps H3 => H3 q = some (.dK []) ∧ H3 p = some (.dK kvs) ∧ ∃ ws : List (Key × V), ps = ws.map (fun kv => (kV kv.1, kv.2)) ∧
  kvs.length + ws.length ≤ sizeLine ∧ Q (.ref p) (upd (upd H3 q (.dK (mergeK [] ws))) p (.dK (mergeK kvs (mergeK [] ws))))
def tStar (t : TE) (p : Addr) (kvs : List (Key × V)) (σ : L2.St) (H : Hp) (R : List (Key × V) → Hp → Prop) : Prop := t σ H fun x H1 => ∃ a more, x = .ref a ∧ a ≠ p ∧ H1 p = some (.dK kvs) ∧ Rd H1 a (.dK more) ∧ kvs.length + more.length ≤ sizeLine ∧ R (mergeK kvs more) (upd H1 p (.dK (mergeK kvs more)))
def tDisp1 (t : TE) (trs : List (TE × TE)) : TE := fun σ H Q => ∀ p, H p = none → tStar t p [] σ (upd H p (.dK [])) fun kvs H1 => tTail trs p kvs Q σ H1
def tDisp2 (t1 t2 : TE) (trs : List (TE × TE)) : TE := fun σ H Q => ∀ p, H p = none → tStar t1 p [] σ (upd H p (.dK [])) fun kvs H1 => tStar t2 p kvs σ H1 fun kvs H1 => tTail trs p kvs Q σ H1
section
variable {X : Cx} {pos : Pos} {e1 e2 : Expr} {keys : List (Option Expr)} {values : List Expr} {t1 t2 : TE} {trs : List (TE × TE)}
theorem star_go {pins : List (Addr × Obj)} {σ : L2.St} {H : Hp} {s : Shared} {e : Expr} {t : TE} {p : Addr} {kvs : List (Key × V)} {R : List (Key × V) → Hp → Prop} {Q : Shared → Prop} (he : PE X e t) (I : Inv X pins σ H s) (h : tStar t p kvs σ H R)
    (hR : ∀ kvs' H' s', Inv X pins σ H' s' → H' p ≠ none → R kvs' H' → Q s') :
    wpAny (model X.prog X.w) X.A (do let x ← eval e X.env; standAt pos; pure x) (Star X.prog X.w X.A p Q) X.xe s := by
  refine wpAny_bind (thn (he.run pins s σ H _ I h) fun v s1 ⟨x, H1, I1, rx, a, more, ex, ne, hp, ha, hz, q⟩ => ?_)
  subst ex
  obtain rfl : v = Value.ref a := rx
  obtain ⟨z1, hS, ms, rm, dm⟩ := dk_rd I1.hok ha
  obtain ⟨z2, hSp, vs0, r0, d0⟩ := dk_of I1.hok hp
  refine wpAny_bind (wpAny_standAt (wpAny_pure ⟨a, vs0, ms, rfl, Ne.symm ne, hS, d0, dm, by rw [← r0.length, ← rm.length]; exact hz, fun h' d1 sb => ?_⟩))
  have hlen : (mergeK kvs more).length ≤ sizeLine := Nat.le_trans (length_mergeK more kvs) hz
  have he : ∃ q, h'.get? p = some q := let ⟨q, _, _, hq, _⟩ := d1; ⟨q, hq⟩
  exact hR _ _ _ (d_write I1 (by rw [hp]; exact True.intro) sb he (dk_new hlen hSp (rm.merge r0) d1)) (by rw [upd_same]; simp) q
theorem tail_go {pins : List (Addr × Obj)} {σ : L2.St} {H : Hp} {s : Shared} {p : Addr} {kvs : List (Key × V)} {Q : VK} (hp : PPs X pos keys values trs) (I : Inv X pins σ H s) (hH : H p ≠ none) (h : tTail trs p kvs Q σ H) :
    Tail X.prog X.w X.A X.xe p (pairTrees keys values X.env pos) (EP X pins σ Q) s := by
  have hq : H s.heap.objs.size = none := I.hok.fresh (Nat.le_refl _)
  have npq : p ≠ s.heap.objs.size := fun z => hH (by rw [z]; exact hq)
  have I1 := I.laid (a := s.heap.objs.size) (o := .dK []) (h' := s.heap.push { cls := .type "dict", data := .dict #[] }) (t' := s.toks) (fun _ _ q => Heap.get?_push_of_some _ q) (Nat.le_refl _) (dk_empty s.heap I.big)
  refine wpAny_mono (hp.run pins _ σ _ _ I1 (h _ hq)) (fun wv s3 ⟨ps, H3, I3, rv, hqe, hpe, ws, eps, hz, q⟩ => ?_) fun _ _ e => e
  subst eps
  obtain ⟨rs, c, rk⟩ := carries_of (P := X.prog) (w := X.w) rv
  obtain ⟨_, hSq, vs0, r0, dq⟩ := dk_of I3.hok hqe
  cases r0
  obtain ⟨_, hSp, vs, rel, dp⟩ := dk_of I3.hok hpe
  refine ⟨rs, vs, c, dq, npq, hSq, by rw [← rel.length, ← rk.length]; exact hz, fun h' d1 sb => ⟨dp.sameBut sb npq, fun h'' d2 sb2 => ?_⟩⟩
  have lw : (mergeK [] ws).length ≤ ws.length := by have := length_mergeK ws []; simpa using this
  have z1 : (mergeK [] ws).length ≤ sizeLine := by omega
  have z2 : (mergeK kvs (mergeK [] ws)).length ≤ sizeLine := by have := length_mergeK (mergeK [] ws) kvs; omega
  have e1 : ∃ q, h'.get? s.heap.objs.size = some q := let ⟨q, _, _, hq, _⟩ := d1; ⟨q, hq⟩
  have e2 : ∃ q, h''.get? p = some q := let ⟨q, _, _, hq, _⟩ := d2; ⟨q, hq⟩
  have J1 := d_write (t' := s3.toks) I3 (by rw [hqe]; exact True.intro) sb e1 (dk_new z1 hSq (rk.merge .nil) d1)
  have hp2 : (upd H3 s.heap.objs.size (.dK (mergeK [] ws))) p = some (.dK kvs) := by rw [upd_ne npq]; exact hpe
  have J2 := d_write (t' := s3.toks + wv.length) J1 (a := p) (by rw [hp2]; exact True.intro) sb2 e2 (dk_new z2 hSp ((rk.merge .nil).merge rel) d2)
  exact ⟨.ref p, _, J2, rfl, q⟩
theorem pt_len (hall : keys.all (·.isSome) = true) (hl : keys.length = values.length) (h0 : keys ≠ []) (h15 : keys.length ≤ 15) : pairTrees keys values X.env pos ≠ [] ∧ (pairTrees keys values X.env pos).length ≤ 15 := by
  have hn := pairTrees_length keys values X.env pos hall hl
  refine ⟨fun he => ?_, by rw [hn]; exact h15⟩
  rw [he] at hn
  exact h0 (List.length_eq_zero_iff.mp hn.symm)
theorem pe_disp1 (he : PE X e1 t1) (h : PPs X pos keys values trs) (hall : keys.all (·.isSome) = true) (hl : keys.length = values.length) (h0 : keys ≠ []) (h15 : keys.length ≤ 15) : PE X (.Dict (none :: keys) (e1 :: values) pos) (tDisp1 t1 trs) := by
  refine ⟨fun pins s σ H Q I q => ?_⟩
  obtain ⟨n0, n15⟩ := pt_len (X := X) (pos := pos) hall hl h0 h15
  rw [arm_eval_Dict]
  show wpAny _ _ (do standAt pos; dictDisplay ((none, do let x ← eval e1 X.env; standAt pos; pure x) :: (evalEachOpt keys X.env).zip ((evalEach values X.env).map fun v => do let x ← v; standAt pos; pure x))) _ _ s
  rw [zip_pairTrees keys values X.env pos hall hl]
  refine wpAny_bind (wpAny_standAt (wp_disp1 n0 n15 ?_))
  have hn := I.hok.fresh (Nat.le_refl s.heap.objs.size)
  have I1 := I.laid (a := s.heap.objs.size) (o := .dK []) (h' := s.heap.push { cls := .type "dict", data := .dict #[] }) (t' := s.toks) (fun _ _ q => Heap.get?_push_of_some _ q) (Nat.le_refl _) (dk_empty s.heap I.big)
  exact star_go he I1 (q _ hn) fun kvs' H' s' I' h1 h2 => tail_go h I' h1 h2
theorem pe_disp2 (he1 : PE X e1 t1) (he2 : PE X e2 t2) (h : PPs X pos keys values trs) (hall : keys.all (·.isSome) = true) (hl : keys.length = values.length) (h0 : keys ≠ []) (h15 : keys.length ≤ 15) : PE X (.Dict (none :: none :: keys) (e1 :: e2 :: values) pos) (tDisp2 t1 t2 trs) := by
  refine ⟨fun pins s σ H Q I q => ?_⟩
  obtain ⟨n0, n15⟩ := pt_len (X := X) (pos := pos) hall hl h0 h15
  rw [arm_eval_Dict]
  show wpAny _ _ (do standAt pos; dictDisplay ((none, do let x ← eval e1 X.env; standAt pos; pure x) :: (none, do let x ← eval e2 X.env; standAt pos; pure x) :: (evalEachOpt keys X.env).zip ((evalEach values X.env).map fun v => do let x ← v; standAt pos; pure x))) _ _ s
  rw [zip_pairTrees keys values X.env pos hall hl]
  refine wpAny_bind (wpAny_standAt (wp_disp2 n0 n15 ?_))
  have hn := I.hok.fresh (Nat.le_refl s.heap.objs.size)
  have I1 := I.laid (a := s.heap.objs.size) (o := .dK []) (h' := s.heap.push { cls := .type "dict", data := .dict #[] }) (t' := s.toks) (fun _ _ q => Heap.get?_push_of_some _ q) (Nat.le_refl _) (dk_empty s.heap I.big)
  exact star_go he1 I1 (q _ hn) fun kvs' H' s' I' h1 h2 => star_go he2 I' h2 fun kvs' H' s' I' h1 h2 => tail_go h I' h1 h2
end

/-! ### as data -/
def dispW2 : List (C × C) → Env → (List (Str × D) → Prop) → Prop
  | [], _, Q => Q []
  | (ck, cv) :: r, env, Q => ck env fun x => ∃ k, x = .str k ∧ cv env fun d => dispW2 r env fun ps => Q ((k, d) :: ps)
structure DPs2 (X : Cx) (pos : Pos) (keys : List (Option Expr)) (values : List Expr) (l : List (C × C)) : Prop where
  run : PPs X pos keys values (l.map fun p => (tD X.K p.1, tD X.K p.2))
theorem dps2_nil {X : Cx} {pos : Pos} : DPs2 X pos [] [] [] := ⟨pps_nil⟩
theorem dps2_cons {X : Cx} {pos : Pos} {k v : Expr} {ck cv : C} {ks : List (Option Expr)} {vs : List Expr} {l : List (C × C)} (hk : DE X k ck) (hv : DE X v cv) (hr : DPs2 X pos ks vs l) : DPs2 X pos (some k :: ks) (v :: vs) ((ck, cv) :: l) := ⟨pps_cons hk hv hr.run⟩
theorem tPairs_of2 {K : PySem.W.Frag} : ∀ {l : List (C × C)} {S : Sa} {R H : Hp} {σ : L2.St} {env : Env} {Qd : List (Str × D) → Prop} {Q : List (V × V) → Hp → Prop}, Wd S R H → EnvR K S R H σ env → dispW2 l env Qd →
    (∀ ps ws R' H', Qd ps → Wx S [] R H R' H' → RepK K S R' ws ps → Q (ws.map fun kv => (kV kv.1, kv.2)) H') → tPairs (l.map fun p => (tD K p.1, tD K p.2)) σ H Q
  | [], S, R, H, σ, env, Qd, Q, wd, er, hq, k => k [] [] R H hq wd.refl .nil
  | (ck, cv) :: l, S, R, H, σ, env, Qd, Q, wd, er, hq, k => ⟨S, R, env, _, wd, er, hq, fun x u R0 H0 ⟨kk, ex, hd⟩ w0 r0 => by
      subst ex
      obtain rfl := str_v r0
      exact ⟨S, R0, env, _, w0.wd, er.step w0, hd, fun d v R1 H1 hd w r => tPairs_of2 (l := l) w.wd ((er.step w0).step w) hd fun ps ws R2 H2 hp w2 r2 => k ((kk, d) :: ps) ((.inr kk, v) :: ws) R2 H2 hp ((w0.tr w).tr w2) (.cons (r.mono w2.rr) r2)⟩⟩
/-- {**d, k: v} -/
def tailW (l : List (C × C)) (env : Env) (kvs : List (Str × D)) (Q : D → Prop) : Prop := dispW2 l env fun ps => kvs.length + ps.length ≤ 100000 ∧ Q (.dct (mergeD kvs (mergeD [] ps)))
def starW (c : C) (env : Env) (kvs : List (Str × D)) (Q : List (Str × D) → Prop) : Prop := c env fun x => ∃ more, x = .dct more ∧ kvs.length + more.length ≤ 100000 ∧ Q (mergeD kvs more)
def cDisp1 (c : C) (l : List (C × C)) : C := fun env Q => starW c env [] fun kvs => tailW l env kvs Q
def cDisp2 (c1 c2 : C) (l : List (C × C)) : C := fun env Q => starW c1 env [] fun kvs => starW c2 env kvs fun kvs => tailW l env kvs Q
section
variable {K : PySem.W.Frag} {S : Sa} {R0 H0 R H : Hp} {p : Addr} {σ : L2.St} {ev : Env}
/-- p is new since H0 and stands unfrozen -/
structure NewP (S : Sa) (R0 H0 R H : Hp) (p : Addr) : Prop where
  w : Wx S [] R0 H0 R H
  new : H0 p = none
  rn : R p = none
theorem NewP.ne (n : NewP S R0 H0 R H p) (w0 : Wd S R0 H0) : p ≠ S.s ∧ p ≠ S.c := w0.new_ne n.new
theorem NewP.step {R1 H1 : Hp} {ob : HO} (n : NewP S R0 H0 R H p) (w0 : Wd S R0 H0) (hp : H p = some ob) (w : Wx S [] R H R1 H1) : NewP S R0 H0 R1 H1 p ∧ H1 p = some ob :=
  ⟨⟨n.w.tr w, n.new, w.fr p (fun z => nomatch z) (by rw [hp]; simp) n.rn⟩, w.hh p ob (fun z => nomatch z) (n.ne w0).1 (n.ne w0).2 hp⟩
theorem NewP.write {ob ob' : HO} (n : NewP S R0 H0 R H p) (w0 : Wd S R0 H0) (hp : H p = some ob) : NewP S R0 H0 R (upd H p ob') p :=
  ⟨n.w.trans (n.w.wd.write hp n.rn (n.ne w0).1 (n.ne w0).2) fun q hq => .inr (by rw [List.mem_singleton.mp hq]; exact n.new), n.new, n.rn⟩
theorem star_d {c : C} {Qd : List (Str × D) → Prop} {kvs : List (Str × D)} {ws : List (Key × V)} {Rr : List (Key × V) → Hp → Prop} (n : NewP S R0 H0 R H p) (w0 : Wd S R0 H0) (er : EnvR K S R0 H0 σ ev) (hp : H p = some (.dK ws)) (rk : RepK K S R ws kvs)
    (h : starW c ev kvs Qd)
    (k : ∀ kvs' ws' R' H', Qd kvs' → NewP S R0 H0 R' H' p → H' p = some (.dK ws') → RepK K S R' ws' kvs' → Rr ws' H') : tStar (tD K c) p ws σ H Rr :=
  ⟨S, R, ev, _, n.w.wd, er.step n.w, h, fun d v R1 H1 ⟨more, ed, hz, q⟩ w r => by
    subst ed
    obtain ⟨a, ms, rfl, h1, h2⟩ := dct_v r
    obtain ⟨n1, hp1⟩ := n.step w0 hp w
    have ne : a ≠ p := fun z => by rw [z, n1.rn] at h1; cases h1
    have l1 := rk.len
    have l2 := h2.len
    exact ⟨a, ms, rfl, ne, hp1, w.rh _ _ h1, line_of (by omega), k _ _ R1 _ q (n1.write w0 hp1) upd_same ((rk.mono w.rr).merge h2)⟩⟩
theorem tail_d {l : List (C × C)} {Qd : D → Prop} {Q : VK} {kvs : List (Str × D)} {ws : List (Key × V)} (n : NewP S R0 H0 R H p) (w0 : Wd S R0 H0) (er : EnvR K S R0 H0 σ ev) (hp : H p = some (.dK ws)) (rk : RepK K S R ws kvs) (h : tailW l ev kvs Qd)
    (k : ∀ d p R' H', Qd d → Wx S [] R0 H0 R' H' → H0 p = none → OwnR K S R' H' p d → Q (.ref p) H') : tTail (l.map fun p => (tD K p.1, tD K p.2)) p ws Q σ H := by
  intro q hq
  have npq : p ≠ q := fun z => by rw [← z, hp] at hq; cases hq
  have wl : Wx S [] R H R (upd H q (.dK [])) := n.w.wd.laid hq
  refine tPairs_of2 wl.wd ((er.step n.w).step wl) h fun ps vs R3 H3 ⟨hz, hd⟩ w3 r3 => ?_
  have w13 := wl.tr w3
  obtain ⟨n3, hp3⟩ := n.step w0 hp w13
  obtain ⟨m1, m2⟩ := n.w.wd.new_ne hq
  have hq3 : H3 q = some (.dK []) := w3.hh q _ (fun z => nomatch z) m1 m2 upd_same
  have rq3 : R3 q = none := w3.fr q (fun z => nomatch z) (by rw [upd_same]; simp) (n.w.wd.new_r hq)
  have l1 := rk.len
  have l2 := r3.len
  refine ⟨hq3, hp3, vs, rfl, line_of (by omega), ?_⟩
  have wq : Wx S [] R0 H0 R3 (upd H3 q (.dK (mergeK [] vs))) := n3.w.trans (n3.w.wd.write hq3 rq3 m1 m2) fun z hz => .inr (by rw [List.mem_singleton.mp hz]; exact n.w.hn' hq)
  have n4 : NewP S R0 H0 R3 (upd H3 q (.dK (mergeK [] vs))) p := ⟨wq, n.new, n3.rn⟩
  have hp4 : (upd H3 q (.dK (mergeK [] vs))) p = some (.dK ws) := by rw [upd_ne npq]; exact hp3
  have n5 := n4.write (ob' := .dK (mergeK ws (mergeK [] vs))) w0 hp4
  exact k _ p R3 _ hd n5.w n.new ⟨n5.rn, (n5.ne w0).1, (n5.ne w0).2, _, upd_same, .dct ((rk.mono w13.rr).merge (RepK.merge .nil r3))⟩
end
section
variable {X : Cx} {pos : Pos} {e1 e2 : Expr} {c1 c2 : C} {keys : List (Option Expr)} {values : List Expr} {l : List (C × C)}
theorem newP0 {S : Sa} {R H : Hp} {p : Addr} (wd : Wd S R H) (hp : H p = none) : NewP S R H R (upd H p (.dK [])) p := ⟨wd.laid hp, hp, wd.new_r hp⟩
theorem df_disp1 (he : DE X e1 c1) (h : DPs2 X pos keys values l) (hall : keys.all (·.isSome) = true := by rfl) (hl : keys.length = values.length := by rfl) (h0 : keys ≠ [] := by exact (fun z => nomatch z)) (h15 : keys.length ≤ 15 := by decide) : DF X (.Dict (none :: keys) (e1 :: values) pos) (cDisp1 c1 l) :=
  PEimp (pe_disp1 he h.run hall hl h0 h15) fun σ H Q ⟨S, R, env, Qd, wd, er, hq, k⟩ p hp =>
    star_d (newP0 wd hp) wd er upd_same .nil hq fun kvs' ws' R' H' q n' hp' rk' => tail_d n' wd er hp' rk' q k
theorem df_disp2 (he1 : DE X e1 c1) (he2 : DE X e2 c2) (h : DPs2 X pos keys values l) (hall : keys.all (·.isSome) = true := by rfl) (hl : keys.length = values.length := by rfl) (h0 : keys ≠ [] := by exact (fun z => nomatch z)) (h15 : keys.length ≤ 15 := by decide) : DF X (.Dict (none :: none :: keys) (e1 :: e2 :: values) pos) (cDisp2 c1 c2 l) :=
  PEimp (pe_disp2 he1 he2 h.run hall hl h0 h15) fun σ H Q ⟨S, R, env, Qd, wd, er, hq, k⟩ p hp =>
    star_d (newP0 wd hp) wd er upd_same .nil hq fun kvs' ws' R' H' q n' hp' rk' => star_d n' wd er hp' rk' q fun kvs' ws' R' H' q n' hp' rk' => tail_d n' wd er hp' rk' q k
end
end E64
/-! {k: v for k, v in d.items() if ..} -/
namespace E64
open PySem PySem.Spec PyProof.Rows L2
def itemsP (kvs : List (Str × D)) : List D := kvs.map fun p => .prs [.str p.1, p.2]
theorem walk_itemsD {K : PySem.W.Frag} {S : Sa} {R H : Hp} {a : Addr} {od : Obj} {ws : List (Key × V)} {kvs : List (Str × D)} (w0 : Wd S R H) (h1 : R a = some (.dK ws)) (h2 : RepK K S R ws kvs) (hf : H a = some (.frz od (.dK ws))) : WalkD K S R H (Iti a od ws) (itemsP kvs) := by
  obtain ⟨n1, n2⟩ := w0.nes h1
  have fz : ∀ xs R' H', Wx S xs R H R' H' → (∀ b ∈ xs, R b = none) → H' a = some (.frz od (.dK ws)) := fun xs R' H' w hx => w.hh a _ (fun z => by rw [hx a z] at h1; cases h1) n1 n2 hf
  have hl := h2.len
  have hm : (itemsP kvs).length = kvs.length := List.length_map _
  refine ⟨fun xs R' H' i w hx hi => ⟨fz _ _ _ w hx, by omega⟩, fun xs R' H' i w hx hi => ⟨fz _ _ _ w hx, by omega⟩, fun xs R' H' i x H'' d w hx ⟨T, k, v, y1, y2, y3, y4⟩ hd => ?_⟩
  subst y2 y4
  obtain ⟨k', d', e1, e2, r⟩ := h2.get y1
  unfold itemsP at hd
  rw [List.getElem?_map, e1] at hd
  cases hd
  subst e2
  have w1 : Wx S [] R' H' R' (upd H' T (.tup [kV (.inr k'), v])) := w.wd.laid y3
  obtain ⟨m1, m2⟩ := w.wd.new_ne y3
  have rn := w.wd.new_r y3
  exact ⟨_, w1.froze upd_same y3 rn m1 m2, .prs upd_same (.cons (.str _) (.cons (r.mono (w.rr.trans (Evl.Ex.new rn))) .nil))⟩
def dcW (g : CG) (ct : CB) (ck cv : C) (env : Env) : List D → List (Str × D) → (List (Str × D) → Prop) → Prop
  | [], acc, Q => Q acc
  | d :: ds, acc, Q => g d env fun env1 => ct env1 fun b => if b = true then ck env1 fun y => ∃ k, y = .str k ∧ cv env1 fun z => acc.length < 100000 ∧ dcW g ct ck cv env ds (putD acc k z) Q else dcW g ct ck cv env ds acc Q
def wItems (cp : C) : CA := fun env Q => cp env fun d => match d with
  | .dct kvs => Q (itemsP kvs)
  | _ => False
def cDComp (cp : C) (vs : List Nat) (g : CG) (ct : CB) (ck cv : C) : C := fun env Q => wItems cp env fun ds => dcW g ct ck cv (wipeE env vs) ds [] fun acc => Q (.dct acc)
theorem dcomp_core {K : PySem.W.Frag} {S : Sa} {R1 H1 : Hp} {env : Env} {Qd : D → Prop} {Q : VK} {ds : List D} {J : It} {vs is : List Nat} {g : CG} {ct : CB} {ck cv : C} {σ : L2.St} (w0 : Wd S R1 H1) (er1 : EnvR K S R1 H1 σ env) (wk : WalkD K S R1 H1 J ds) (his : ∀ i ∈ is, i ∈ vs)
    (hds : dcW g ct ck cv (wipeE env vs) ds [] fun acc => Qd (.dct acc))
    (k : ∀ d p R' H', Qd d → Wx S [] R1 H1 R' H' → H1 p = none → OwnR K S R' H' p d → Q (.ref p) H') : ∀ L, H1 L = none →
    ∃ W : Nat → Nat → Hp → Prop, (∃ m, W 0 m (upd H1 L (.dK []))) ∧ ∀ i m H, W i m H →
      (J.stop i H ∧ Q (.ref L) H) ∨ (J.go i H ∧ ∃ Nx : Hp → Prop, (∀ H', Nx H' → ∃ m', m' < m ∧ W (i + 1) m' H') ∧ ∀ x H', J.yld i H x H' → tG K is g x (wipe σ vs) H' fun σ2 H2 => wipe σ2 vs = wipe σ vs ∧ tT K ct σ2 H2 fun b H3 =>
        if b = true then tD K ck σ2 H3 fun y H4 => tD K cv σ2 H4 fun z H5 => ∃ kvs k, y = kV k ∧ H5 L = some (.dK kvs) ∧ kvs.length < sizeLine ∧ Nx (upd H5 L (.dK (putK kvs k z))) else Nx H3) := by
  intro L hL
  obtain ⟨erw, ow⟩ := er1.wipe vs
  obtain ⟨n1, n2⟩ := w0.new_ne hL
  have rL := w0.new_r hL
  refine ⟨fun i m H' => m = ds.length - i ∧ i ≤ ds.length ∧ ∃ R' acc va, Wx S [] R1 H1 R' H' ∧ R' L = none ∧ H' L = some (.dK va) ∧ RepK K S R' va acc ∧ dcW g ct ck cv (wipeE env vs) (ds.drop i) acc fun acc => Qd (.dct acc),
    ⟨ds.length, by simp, Nat.zero_le _, R1, [], [], w0.laid hL, rL, upd_same, .nil, hds⟩, ?_⟩
  rintro i m H' ⟨rfl, hi, R', acc, va, w2, r2, h2, rep2, hf⟩
  by_cases hlt : i < ds.length
  · obtain ⟨d, hd⟩ : ∃ d, ds[i]? = some d := ⟨ds[i], by simp [hlt]⟩
    have hdrop : ds.drop i = d :: ds.drop (i + 1) := by
      rw [List.drop_eq_getElem_cons hlt]
      obtain ⟨_, e⟩ := List.getElem?_eq_some_iff.mp hd
      rw [e]
    rw [hdrop] at hf
    refine .inr ⟨wk.go _ R' H' i w2 (fun _ z => nomatch z) hlt, fun H3 => ∃ R3 acc va, Wx S [] R1 H1 R3 H3 ∧ R3 L = none ∧ H3 L = some (.dK va) ∧ RepK K S R3 va acc ∧ dcW g ct ck cv (wipeE env vs) (ds.drop (i + 1)) acc fun acc => Qd (.dct acc),
      fun H3 h3 => ⟨ds.length - (i + 1), by omega, rfl, hlt, h3⟩, fun x H'' y => ?_⟩
    obtain ⟨R'', w3, r3⟩ := wk.yld _ R' H' i x H'' d w2 (fun _ z => nomatch z) y hd
    have w13 := w2.tr w3
    refine ⟨S, R'', wipeE env vs, d, _, w3.wd, erw.step w13, r3, hf, fun env4 ws q4 e4 o4 => ⟨?_, ?_⟩⟩
    · rw [wipe_sets his, wipe_wipe]
    · refine ⟨S, R'', env4, _, w3.wd, e4, q4, fun b R5 H5 q5 w5 => ?_⟩
      have w15 := w13.tr w5
      have hL5 : H5 L = some (.dK va) := w5.hh L _ (fun z => nomatch z) n1 n2 (w3.hh L _ (fun z => nomatch z) n1 n2 h2)
      have rL5 : R5 L = none := by
        refine w5.fr L (fun z => nomatch z) ?_ (w3.fr L (fun z => nomatch z) (by rw [h2]; simp) r2)
        rw [w3.hh L _ (fun z => nomatch z) n1 n2 h2]; simp
      have rep5 := rep2.mono (w3.rr.trans w5.rr)
      cases b with
      | true =>
        have q5 : ck env4 fun y => ∃ k, y = .str k ∧ cv env4 fun z => acc.length < 100000 ∧ dcW g ct ck cv (wipeE env vs) (ds.drop (i + 1)) (putD acc k z) fun acc => Qd (.dct acc) := by simpa using q5
        refine iteT ⟨S, R5, env4, _, w5.wd, e4.step w5, q5, fun y u R6 H6 ⟨kk, ey, q6⟩ w6 r6 => ⟨S, R6, env4, _, w6.wd, (e4.step w5).step w6, q6, fun z v R7 H7 ⟨hz, q7⟩ w7 r7 => ?_⟩⟩
        subst ey
        obtain rfl := str_v r6
        have w67 := w6.tr w7
        have hL7 := w67.hh L _ (fun z => nomatch z) n1 n2 hL5
        have rL7 := w67.fr L (fun z => nomatch z) (by rw [hL5]; simp) rL5
        refine ⟨va, .inr kk, rfl, hL7, ?_, R7, putD acc kk z, putK va (.inr kk) v, ?_, rL7, upd_same, (rep5.mono w67.rr).put r7, q7⟩
        · have := rep5.len; rw [this]; exact Nat.lt_of_lt_of_le hz (by decide)
        · exact (w15.tr w67).trans (w67.wd.write hL7 rL7 n1 n2) fun p hp => .inr (by rw [List.mem_singleton.mp hp]; exact hL)
      | false => exact iteF ⟨R5, acc, va, w15, rL5, hL5, rep5, by simpa using q5⟩
  · have e : i = ds.length := by omega
    subst e
    rw [List.drop_length] at hf
    exact .inl ⟨wk.stop _ R' H' _ w2 (fun _ z => nomatch z) (Nat.le_refl _), k _ L R' H' hf w2 hL ⟨r2, n1, n2, _, h2, .dct rep2⟩⟩
theorem cDComp_of {K : PySem.W.Frag} {te : TE} {cp : C} {vs is : List Nat} {g : CG} {ct : CB} {ck cv : C} {σ : L2.St} {H : Hp} {Q : VK} (hp : PathD K te cp) (his : ∀ i ∈ is, i ∈ vs) (h : tF K (cDComp cp vs g ct ck cv) σ H Q) :
    tLockE (tDc (iItems te) (tG K is g) (tT K ct) (tD K ck) (tD K cv) vs) σ H Q ∨ tDc (iItems te) (tG K is g) (tT K ct) (tD K ck) (tD K cv) vs σ H Q := by
  obtain ⟨S, R, env, Qd, wd, er, hq, k⟩ := h
  obtain ⟨a, ws, kvs, hR, rk, hf, ht⟩ := hp S R H σ env _ wd er hq
  rcases wd.rh.cases hR with e | ⟨f, e⟩
  · refine .inl ⟨a, _, e, trivial, fun od => ?_⟩
    have wl := wd.lock (od := od) hR e
    have el := er.lock (od := od) hR
    refine ht _ _ wl.rh ⟨a, od, ws, rfl, upd_same, ?_⟩
    refine dcomp_core (Qd := Qd) (Q := fun v H' => H' a = some (.frz od (.dK ws)) ∧ Q v (upd H' a (.dK ws))) wl el (walk_itemsD wl hR rk upd_same) his hf fun d p R' H' hd w h0 ow => ?_
    obtain ⟨l1, w2⟩ := Wx.unlock (xs := []) wd hR e (fun z => nomatch z) w
    have hpa : p ≠ a := fun z => by rw [z, upd_same] at h0; cases h0
    refine ⟨l1, k d p R' _ hd w2 (by rw [upd_ne hpa] at h0; exact h0) ⟨ow.rn, ow.n1, ow.n2, ?_⟩⟩
    obtain ⟨o, x, y⟩ := ow.ob
    exact ⟨o, by rw [upd_ne hpa]; exact x, y⟩
  · refine .inr (ht _ _ wd.rh ⟨a, f, ws, rfl, e, ?_⟩)
    exact dcomp_core (Qd := Qd) wd er (walk_itemsD wd hR rk e) his hf k
theorem df_dcomp {X : Cx} {kx vx e : Expr} {elts : List Expr} {kk : Nat} {tpos apos cpos : Pos} {ifs : List Expr} {scope : Scope} {own : List (Str × Nat)} {pos : Pos} {te : TE} {cp : C} {is : List Nat} {g : CG} {ct : CB} {ck cv : C} (hc : X.calm = true) (hN : X.N.Nodup) (hi : PE X e te) (hpt : PathD X.K te cp) (ok : BlkOk X.N X.env.scope scope own)
    (hg : ∀ (s : Shared) (H : Hp) (C : Addr) (cl : List (Str × Addr)) (fp : List Addr), DG (X.blk s H scope (compEnvC scope cl C X.env) fp) (.Tuple elts kk tpos) is g) (ht : ∀ (s : Shared) (H : Hp) (C : Addr) (cl : List (Str × Addr)) (fp : List Addr), DTs (X.blk s H scope (compEnvC scope cl C X.env) fp) ifs ct)
    (hk : ∀ (s : Shared) (H : Hp) (C : Addr) (cl : List (Str × Addr)) (fp : List Addr), DE (X.blk s H scope (compEnvC scope cl C X.env) fp) kx ck)
    (he : ∀ (s : Shared) (H : Hp) (C : Addr) (cl : List (Str × Addr)) (fp : List Addr), DE (X.blk s H scope (compEnvC scope cl C X.env) fp) vx cv) (his : ∀ i ∈ is, i ∈ own.map (·.2) := by decide) (hs : ∀ x, foldedSetIterable (.Call (.Attribute e "items" apos) [] [] cpos) X.env x = pure x := by intro _; rfl)
    (hbase : attributeBase e "items" X.env (eval e X.env) = eval e X.env := by rfl) (hline : (apos.endLine == cpos.line) = true := by rfl) :
    DF X (.DictComp kx vx [⟨.Tuple elts kk tpos, .Call (.Attribute e "items" apos) [] [] cpos, ifs, 0⟩] scope pos) (cDComp cp (own.map (·.2)) g ct ck cv) :=
  PEimp (PEor (pe_lock (pe_dc hc hN (pi_items hi hbase hline) ok hg ht hk he hs)) (pe_dc hc hN (pi_items hi hbase hline) ok hg ht hk he hs)) fun _ _ _ h => cDComp_of hpt his h
end E64
/-! repr -/
namespace E64
open PySem PySem.Spec PyProof.Rows L2
def rRepr (K : PySem.W.Frag) : List V → Hp → VK → Prop := fun xs H Q => ∃ (x : V) (d : PyData), xs = [x] ∧ Dp K H x d ∧ d.showable = true ∧ d.hasDict = false ∧ d.depth ≤ 64 ∧ d.shown.length ≤ sizeLine ∧ Q (.str d.shown) H
theorem call_repr {X : Cx} (hg : X.A.guards = some []) (hu : X.A.units + 70 < cLine) : CallR X (.builtin "repr") (rRepr X.K) := by
  intro pins s σ H xs us Q I r h
  obtain ⟨x, d, rfl, hd, hs, hnd, hdep, hsz, q⟩ := h
  obtain ⟨u, rfl, rx⟩ := vals1 r
  cases hd with
  | non =>
    obtain rfl : u = Value.none := rx
    exact P.repr_of_none ⟨.str _, H, I.tok _, ⟨_, rfl⟩, by rw [PyData.shown] at q; exact q⟩
  | bl b =>
    obtain rfl : u = Value.bool b := rx
    exact P.repr_of_bool ⟨.str _, H, I.tok _, ⟨_, rfl⟩, by rw [PyData.shown] at q; cases b <;> exact q⟩
  | int i =>
    obtain ⟨t, rfl⟩ := rx
    exact P.repr_of_int (by simpa [PyData.showable] using hs) ⟨.str _, H, I.tok _, ⟨_, rfl⟩, by rw [PyData.shown] at q; exact q⟩
  | str y =>
    obtain ⟨t, rfl⟩ := rx
    rw [PyData.shown] at q hsz
    exact P.repr_of_str ⟨.str _, H, I.tok _, ⟨_, rfl⟩, q⟩ hsz
  | @tup a vs ds h1 h2 =>
    obtain rfl : u = Value.ref a := rx
    obtain ⟨as, r1⟩ := Dp.reads I _ _ (.ref a) (.tup h1 h2) rfl
    exact repr_of_reads' r1 hs (PyData.noDict_hsm hnd) hg (by omega) (fun _ _ e => e) (fun h' u tk hk => ⟨.str _, H, I.kept hk, ⟨_, rfl⟩, q⟩) hsz
  | @lst a vs ds h1 h2 =>
    obtain rfl : u = Value.ref a := rx
    obtain ⟨as, r1⟩ := Dp.reads I _ _ (.ref a) (.lst h1 h2) rfl
    exact repr_of_reads' r1 hs (PyData.noDict_hsm hnd) hg (by omega) (fun _ _ e => e) (fun h' u tk hk => ⟨.str _, H, I.kept hk, ⟨_, rfl⟩, q⟩) hsz
def fRepr : List D → (D → Prop) → Prop
  | [d], Q => (PyData.canLay0 (toPy d) = true ∧ PyData.showable (toPy d) = true ∧ (toPy d).depth ≤ 64 ∧ (toPy d).shown.length ≤ 16000000) ∧ Q (.str (toPy d).shown)
  | _, _ => False
theorem o_repr {K : PySem.W.Frag} : CallD K (rRepr K) fRepr := by
  intro S R H xs vs Qd Q wd r h k
  unfold fRepr at h
  split at h
  · obtain ⟨v, rfl, q0⟩ := one_v r
    obtain ⟨⟨h1, h2, h3, h4⟩, q⟩ := h
    exact ⟨v, _, rfl, q0.dp wd.rh h1, h2, PyData.hasDict_of_canLay _ h1, h3, Nat.le_trans h4 (by decide), done_v wd k q (.str _)⟩
  · exact h.elim
theorem de_repr {X : Cx} {p pos : Pos} {e : Expr} {ca : CA} (hgd : X.A.guards = some []) (hu : X.A.units + 70 < cLine) (hg : Gl X "repr") (hm : X.mg "repr" = none) (ha : DL X [e] ca) (he : starEach [e] X.env = (false, eval e X.env) :: starEach [] X.env := by rfl) : DE X (.Call (.Name "repr" p) [e] [] pos) (cCB fRepr ca) :=
  de_callB (call_repr hgd hu) o_repr hg hm (by decide +kernel) ha (by decide) (by decide) he rfl
end E64
/-! defs: from the body's data to the promise; defs that want no guards; a table of defs; the law's end -/
namespace E64
open PySem PySem.Spec PyProof.Rows L2
theorem room_u1 {k : Nat} {A : Around} (r : Room k A) : A.units + 1 < cLine := by have := r.un; omega
theorem room_u64 {k : Nat} {A : Around} (r : Room k A) : A.units + 64 < cLine := by have := r.un; omega
theorem room_u70 {k : Nat} {A : Around} (r : Room k A) : A.units + 70 < cLine := by have := r.un; omega
/-- the slots at a def's entry -/
def env0 (N : List Str) (ds : List D) : Env := ⟨ds.map some ++ List.replicate (N.length - ds.length) none, none⟩
theorem env0_r {K : PySem.W.Frag} {S : Sa} {R H : Hp} {N : List Str} {vs : List V} {ds : List D} (r : RepL K S R vs ds) : EnvR K S R H (L2.start N vs) (env0 N ds) := by
  have hl := r.len
  refine ⟨?_, fun i d e => ?_, fun i d e => nomatch e⟩
  · show (ds.map some ++ List.replicate (N.length - ds.length) none).length = (vs.map some ++ List.replicate (N.length - vs.length) none).length
    simp [hl]
  · have e : (ds.map some ++ List.replicate (N.length - ds.length) none)[i]? = some (some d) := e
    by_cases hi : i < ds.length
    · rw [List.getElem?_append_left (by simpa using hi), List.getElem?_map] at e
      cases q : ds[i]? with
      | none => rw [q] at e; cases e
      | some x =>
        rw [q] at e
        cases e
        obtain ⟨v, h1, h2⟩ := r.get q
        refine ⟨v, ?_, h2⟩
        show (vs.map some ++ List.replicate (N.length - vs.length) none)[i]? = _
        rw [List.getElem?_append_left (by rw [List.length_map, hl]; exact hi), List.getElem?_map, h1] <;> rfl
    · rw [List.getElem?_append_right (by simpa using hi), List.getElem?_replicate] at e
      split at e <;> cases e
theorem ownA0 {N : List Str} {ds : List D} {σ : L2.St} : ownA σ (env0 N ds) = [] := ownA_none rfl
/-- the body's data at the entry -/
theorem body_d {K : PySem.W.Frag} {n : Nat} {f : List D → (D → Prop) → Prop} {N : List Str} {cb : CS} (hc : ∀ ds Qd, ds.length = n → f ds Qd → cb (env0 N ds) (fun _ => Qd .non) Qd) {vs : List V} {H : Hp} {Q : VK} {E : XK} (h : spD K n f vs H Q E) :
    tS K cb { nx := fun _ H' => Q .non H', rt := Q } (L2.start N vs) H := by
  obtain ⟨S, R, ds, Qd, wd, r, hl, hf, k⟩ := h
  refine ⟨S, R, env0 N ds, _, Qd, wd, env0_r r, hc ds Qd hl hf, fun env' σ' R' H' q w e o => ?_, fun d v R' H' q w r => ?_⟩
  · rw [ownA0] at w
    exact k _ _ R' H' q w .non
  · rw [ownA0] at w
    exact k _ _ R' H' q w r
section
variable {P : Program} {w : World} {K : PySem.W.Frag} {mg : Str → Option Value} {base : Heap} {x qual : Str} {params : Arguments} {body : List Stmt} {scope : Scope} {f : Addr} {fd : FuncData}
theorem fn_d {N ps : List Str} {k n : Nat} {g : List D → (D → Prop) → Prop} {cb : CS} (F : FunD K x qual params body scope [] [] f fd) (S : FnScope N ps scope) (hn : ps.length = n)
    (hbody : ∀ (cdv : Value) (A : Around) (outer : List PySem.Env) (s : Shared) (H : Hp) (E : XK), Room k (A.deeper (envOfC qual scope s.heap.objs.size f cdv)) → DSs (cxOf CX0 P w K mg base N qual scope f cdv A outer s H E).nox body cb)
    (hc : ∀ ds Qd, ds.length = n → g ds Qd → cb (env0 N ds) (fun _ => Qd .non) Qd) : FnOk P w K mg base CX0 (k + 1) f fd ps (spD K n g) :=
  F.ok S (spD_len hn) fun cdv A outer s H vs Q E hr h => ⟨_, (hbody cdv A outer s H E hr).nox, body_d hc h⟩

/-! ### no guards -/
structure FnG (P : Program) (w : World) (K : PySem.W.Frag) (mg : Str → Option Value) (base : Heap) (CX : CXT) (k : Nat) (f : Addr) (fd : FuncData) (ps : List Str) (sp : Sp) : Prop where
  len : ∀ vs H Q E, sp vs H Q E → vs.length = ps.length
  run : ∀ (A : Around) (outer : List PySem.Env) (s : Shared) (H : Hp) (args : Args) (us : List Value) (vs : List V) (Q : VK) (E : XK), Room k A → A.guards = some [] → Env0 P w K mg base A outer s H → BindsTo s fd args (ps.zip us) → Vals vs us → sp vs H Q E →
    codeAny (model P w) A (.call (.ref f) args) (CR CX outer P w H s Q E) s
theorem fnG {CX : CXT} {N ps : List Str} {k : Nat} {sp : Sp} (F : FunD K x qual params body scope [] [] f fd) (S : FnScope N ps scope) (len : ∀ vs H Q E, sp vs H Q E → vs.length = ps.length)
    (hbody : ∀ (cdv : Value) (A : Around) (outer : List PySem.Env) (s : Shared) (H : Hp) (vs : List V) (Q : VK) (E : XK), Room k (A.deeper (envOfC qual scope s.heap.objs.size f cdv)) → (A.deeper (envOfC qual scope s.heap.objs.size f cdv)).guards = some [] → sp vs H Q E →
      ∃ t, PSs (cxOf CX P w K mg base N qual scope f cdv A outer s H E) body t ∧ t { nx := fun _ H' => Q .non H', rt := Q } (L2.start N vs) H) : FnG P w K mg base CX (k + 1) f fd ps sp := by
  obtain ⟨oc, od, dV, kV, doc, pm, an, cdv, ct, osl, rfl, lk, hcd, _, _⟩ := F.ex
  refine ⟨len, fun A outer s H args us vs Q E hr hgd e0 hb r hsp => ?_⟩
  have hl := len _ _ _ _ hsp
  have KX : K.In s.heap := e0.mod.kin.keeps fun b o e => (e0.bs b o e).1
  have lim : s.heap.NoLimit := e0.mod.nolimit.keeps fun b o e => (e0.bs b o e).1
  have hkind : ∀ y ∈ ps.zip us, scope.names.lookup y.1 = some .local ∨ (scope.names.lookup y.1 = some .cell ∧ ((cellsFrom (s.heap.objs.size + 1) scope.names []).lookup y.1).isSome = true) := fun ⟨n, v⟩ hy => by
    rcases S.par n (List.of_mem_zip hy).1 with q | q
    · exact .inl q
    · exact .inr ⟨q, PySem.W.cellsFrom_some _ _ _ (.inl q)⟩
  refine codeAny_call_function hr.depth (KX _ _ lk) rfl S.co S.gen rfl (PySem.W.codeRec_of KX hcd) (hb _ _ _ _ ?_)
  refine wpAny_newFunctionEnv_cells S.kind hkind fun env he s1 x => ?_
  subst he
  refine ⟨lim.keeps x.toInCall.keep, codeAny_func ?_⟩
  obtain ⟨t, ht, hq⟩ := hbody cdv A outer s H vs Q E (hr.deeper _) hgd hsp
  have I : Inv (cxOf CX P w K mg base N qual scope f cdv A outer s H E) [] (L2.start N vs) H s1 := inv_start S hr.hd e0 hl r x
  refine wpAny_mono (ht.run [] s1 (L2.start N vs) H _ I hq) (fun fl s' hs => ?_) fun e s' hs => hs
  have fin : ∀ {σ' : L2.St} {H' : Hp} {v : V} {u : Value}, Inv (cxOf CX P w K mg base N qual scope f cdv A outer s H E) [] σ' H' s' → RelV v u → Q v H' → CE outer P w H s Q u s' :=
    fun {σ' H' v u} J rv q => ⟨v, H', J.os, J.bare, J.base, J.hok, rv, q⟩
  cases fl with
  | ret u =>
    obtain ⟨v, σ', H', J, rv, q⟩ := hs
    exact fin J rv q
  | next =>
    obtain ⟨σ', H', J, q⟩ := hs
    exact fin (v := V.non) (u := Value.none) J rfl q
  | brk =>
    obtain ⟨_, _, _, q⟩ := hs
    exact False.elim q
  | cont =>
    obtain ⟨_, _, _, q⟩ := hs
    exact False.elim q
theorem fnG_d {N ps : List Str} {k n : Nat} {g : List D → (D → Prop) → Prop} {cb : CS} (F : FunD K x qual params body scope [] [] f fd) (S : FnScope N ps scope) (hn : ps.length = n)
    (hbody : ∀ (cdv : Value) (A : Around) (outer : List PySem.Env) (s : Shared) (H : Hp) (E : XK), Room k (A.deeper (envOfC qual scope s.heap.objs.size f cdv)) → (A.deeper (envOfC qual scope s.heap.objs.size f cdv)).guards = some [] → DSs (cxOf CX0 P w K mg base N qual scope f cdv A outer s H E).nox body cb)
    (hc : ∀ ds Qd, ds.length = n → g ds Qd → cb (env0 N ds) (fun _ => Qd .non) Qd) : FnG P w K mg base CX0 (k + 1) f fd ps (spD K n g) :=
  fnG F S (spD_len hn) fun cdv A outer s H vs Q E hr hgd h => ⟨_, (hbody cdv A outer s H E hr hgd).nox, body_d hc h⟩
end
section
variable {X : Cx} {CX : CXT} {k n : Nat} {f : Addr} {fd : FuncData} {ps : List Str} {sp : Sp} {E : XK} {x : Str} {p pos : Pos} {e : Expr} {es : List Expr} {t : TA}
theorem run_fnG {pins : List (Addr × Obj)} {σ : L2.St} {H : Hp} {s : Shared} {Q : VK} {us : List Value} {vs : List V} (F : FnG X.prog X.w X.K X.mg X.base CX k f fd ps sp) (hr : Room k X.A) (hgd : X.A.guards = some []) (hb : Binds X.K fd ps []) (hx : Passes CX X E)
    (I : Inv X pins σ H s) (r : Vals vs us) (h : sp vs H Q E) : wpAny (model X.prog X.w) X.A (call (.ref f) us) (EP X pins σ Q) X.xe s := by
  have hl : us.length = ps.length := by rw [← r.length]; exact F.len _ _ _ _ h
  have hb2 := hb s us I.kIn (by rw [List.append_nil]; exact hl)
  rw [List.append_nil] at hb2
  refine wpAny_call (codeAny_mono (F.run X.A X.stack s H ⟨us, []⟩ us vs Q E hr hgd I.env0 hb2 r h) fun r s' hq => ?_)
  cases r with
  | error e => exact hx pins σ H s e s' I hq
  | ok fl =>
    cases fl with
    | ret u => exact I.after hq
    | next => exact False.elim hq
    | brk => exact False.elim hq
    | cont => exact False.elim hq
theorem pe_callGd (F : FnG X.prog X.w X.K X.mg X.base CX k f fd ps sp) (hr : Room k X.A) (hgd : X.A.guards = some []) (hg : Gl X x) (hm : X.mg x = some (.ref f)) (hk : PySem.W.keepIn X.K (.ref f) = true) (hb : Binds X.K fd ps []) (hx : Passes CX X E)
    (ha : PA X (e :: es) t) (hdb : (x == ("__debug__" : Str)) = false := by decide) (he : starEach (e :: es) X.env = (false, eval e X.env) :: starEach es X.env := by rfl) (hpl : (backTo pos (starEach es X.env)).any (·.1) = false := by rfl) :
    PE X (.Call (.Name x p) (e :: es) [] pos) (fun σ H Q => t σ H fun vs H1 => sp vs H1 Q E) := by
  refine ⟨fun pins s σ H Q I h => ?_⟩
  refine wpAny_Call_Name_kw (ld_glob I hg hm ?_ hdb)
  refine PySem.W.callWith_K (h₀ := X.base) I.ok.mod.kin hk (thn (ha.run pos pins s σ H _ I h) fun us s1 ⟨vs, H1, I1, r, q⟩ => ⟨I1.kIn, ?_⟩) he hpl
  exact run_fnG F hr hgd hb hx I1 r q
theorem de_callG {g : List D → (D → Prop) → Prop} {ca : CA} (F : FnG X.prog X.w X.K X.mg X.base CX0 k f fd ps (spD X.K n g)) (hr : Room k X.A) (hgd : X.A.guards = some []) (hg : Gl X x) (hm : X.mg x = some (.ref f)) (hk : PySem.W.keepIn X.K (.ref f) = true) (hb : Binds X.K fd ps [])
    (ha : DL X (e :: es) ca) (hdb : (x == ("__debug__" : Str)) = false := by decide) (he : starEach (e :: es) X.env = (false, eval e X.env) :: starEach es X.env := by rfl) (hpl : (backTo pos (starEach es X.env)).any (·.1) = false := by rfl) :
    DE X (.Call (.Name x p) (e :: es) [] pos) (cCall n g ca) :=
  PEimp (pe_callGd (E := E0) F hr hgd hg hm hk hb pass0 ha hdb he hpl) fun σ H Q h => by
    obtain ⟨S, R, env, Qd, wd, er, hq, k⟩ := h
    exact ⟨S, R, env, _, wd, er, hq, fun ds vs R1 H1 q w r => ⟨S, R1, ds, Qd, w.wd, r, q.1, q.2, fun d v R' H' hd w2 r2 => k d v R' H' hd (w.tr w2) r2⟩⟩
end

/-! ### a table of defs, called by a text -/
/-- what stands in the table under a text, and what it does -/
structure TabD (P : Program) (w : World) (K : PySem.W.Frag) (mg : Str → Option Value) (base : Heap) (k n : Nat) (d : Addr) (T : Str → Option (List D → (D → Prop) → Prop)) : Prop where
  tab : ∃ es m, KDict K w d es m
  fn : ∀ z g, T z = some g → ∃ (f : Addr) (fd : FuncData) (ps : List Str), PySem.W.nsIn K d z = some (some (.ref f)) ∧ FnOk P w K mg base CX0 k f fd ps (spD K n g) ∧ PySem.W.keepIn K (.ref f) = true ∧ Binds K fd ps []
def cTab (n : Nat) (T : Str → Option (List D → (D → Prop) → Prop)) (ck : C) (ca : CA) : C := fun env Q => ck env fun y => ∃ z g, y = .str z ∧ T z = some g ∧ ca env fun ds => ds.length = n ∧ g ds Q
section
variable {X : Cx} {k n : Nat} {d : Addr} {T : Str → Option (List D → (D → Prop) → Prop)} {x : Str} {p spos pos : Pos} {i e : Expr} {es : List Expr} {ck : C} {ca : CA}
theorem ix_kd {es : Array DictEntry} {m : Nat} (D : KDict X.K X.w d es m) : IxR X (fun x y H Q => ∃ (z : Str) (u0 : Value) (v0 : V), x = .ref d ∧ y = .str z ∧ PySem.W.nsIn X.K d z = some (some u0) ∧ RelV v0 u0 ∧ Q v0 H) := by
  intro value slice pins s σ H x y v u Q I rx ry h hs
  have h2 := h
  obtain ⟨z, u0, v0, ex, ey, e, r, q⟩ := h2
  subst ex
  have ev : v = Value.ref d := rx
  subst ev
  exact tail_any (kd_type D I) PySem.F.slot_dict_getitem.lookup (op_item_kd D pins s σ H _ _ _ _ Q I rx ry h) hs
theorem de_tab (Td : TabD X.prog X.w X.K X.mg X.base k n d T) (hr : Room k X.A) (hg : Gl X x) (hm : X.mg x = some (.ref d)) (hi : DE X i ck) (ha : DL X (e :: es) ca) (hs : PlainIx i := by exact fun _ _ => rfl) (hdb : (x == ("__debug__" : Str)) = false := by decide)
    (ht : eval (.Call (.Subscript (.Name x p) i spos) (e :: es) [] pos) X.env = (do callWith pos (← eval (.Subscript (.Name x p) i spos) X.env) [] (backTo pos (starEach (e :: es) X.env)) (backToKw pos (keywordEach [] X.env))) := by rfl)
    (he : starEach (e :: es) X.env = (false, eval e X.env) :: starEach es X.env := by rfl) (hpl : (backTo pos (starEach es X.env)).any (·.1) = false := by rfl) :
    DE X (.Call (.Subscript (.Name x p) i spos) (e :: es) [] pos) (cTab n T ck ca) := by
  obtain ⟨tes, tm, KD⟩ := Td.tab
  have hd : PE X (.Name x p) (fun σ H Q => Q (.ref d) H) := ⟨fun pins s σ H Q I h => ld_glob I hg hm ⟨.ref d, H, I, rfl, h⟩ hdb⟩
  refine ⟨fun pins s σ H Q I ⟨S, R, env, Qd, wd, er, hq, kk⟩ => ?_⟩
  refine Call_ (thn ((pe_ix (ix_kd KD) hd hi hs).run pins s σ H (fun v H1 => ∃ f g R1, v = .ref f ∧ Wx S [] R H R1 H1 ∧ (∃ (fd : FuncData) (ps : List Str), FnOk X.prog X.w X.K X.mg X.base CX0 k f fd ps (spD X.K n g) ∧ PySem.W.keepIn X.K (.ref f) = true ∧ Binds X.K fd ps []) ∧ ca env fun ds => ds.length = n ∧ g ds Qd) I ?_) fun u s1 ⟨v, H1, I1, rv, f, g, R1, ev, w1, ⟨fd, ps, F, kp, hb⟩, hca⟩ => ?_) ht
  · refine ⟨S, R, env, _, wd, er, hq, fun y w' R1 H1 ⟨z, g, ey, eT, hca⟩ w1 r1 => ?_⟩
    subst ey
    obtain rfl := str_v r1
    obtain ⟨f, fd, ps, h1, h2, h3, h4⟩ := Td.fn z g eT
    exact ⟨z, .ref f, .ref f, rfl, rfl, h1, rfl, f, g, R1, rfl, w1, ⟨fd, ps, h2, h3, h4⟩, hca⟩
  · subst ev
    cases rv
    refine PySem.W.callWith_K (h₀ := X.base) I1.ok.mod.kin kp (thn (ha.run pos pins s1 σ H1 _ I1 ⟨S, R1, env, _, w1.wd, er.step w1, hca, fun ds vs R2 H2 q w2 r => (show ∃ S' R' ds' Qd', Wd S' R' H2 ∧ RepL X.K S' R' vs ds' ∧ ds'.length = n ∧ g ds' Qd' ∧ ∀ d v R'' H'', Qd' d → Wx S' [] R' H2 R'' H'' → Rep X.K S' R'' v d → Q v H'' from ⟨S, R2, ds, Qd, w2.wd, r, q.1, q.2, fun d v R' H' hd w3 r3 => kk d v R' H' hd ((w1.tr w2).tr w3) r3⟩)⟩) fun us s2 ⟨vs, H2, I2, r, q⟩ => ⟨I2.kIn, ?_⟩) he hpl
    exact run_fn (dvs := []) (ds := []) (E := E0) F hr hb .nil pass0 I2 r (by rw [List.append_nil]; exact q)
end

/-! ### the law's end -/
theorem law_callG {P : Program} {w : World} {K : PySem.W.Frag} {mg mb : Str → Option Value} {CX : CXT} {k : Nat} {fa a : Addr} {fd : FuncData} {x : Str} {sp : Sp} {s₁ : Shared} {vs : List Value} {ns : List Int}
    (KX : K.In s₁.heap) (hns : s₁.heap.Ns mainGlobals mg) (hb : s₁.heap.Ns builtinsNs mb) (hbb : ∀ x : Str, x ≠ "__name__" → mb x = bootBuiltins x) (hlim : s₁.heap.NoLimit) (hg : s₁.gens = #[])
    (ha : s₁.heap.get? a = some { cls := .type "list", data := .seq vs.toArray }) (hi : IntsAre vs ns) (hl : ns.length ≤ sizeLine) (hr : Room k callerA)
    (F : ∀ base : Heap, K.In base → base.Ns mainGlobals mg → FnG P w K mg base CX k fa fd [x] sp) (hbind : ∀ (s : Shared) (u : Value), BindsTo s fd ⟨[u], []⟩ [(x, u)])
    (hsp : ∀ H : Hp, Only H → SqL K H a (ns.map V.int) → sp [.ref a] H (fun v _ => v = .bl true) fun _ _ _ => False)
    (hCX : ∀ H e s', CX [] H s₁ (fun _ _ _ => False) e s' → False) :
    codeAny (model P w) callerA (.call (.ref fa) ⟨[.ref a], []⟩) (fun r s' => r = .ok (.ret (.bool true)) ∧ OldK s₁.heap s'.heap ∧ s'.os = s₁.os ∧ AllBare s'.gens) s₁ := by
  have rv := vals_ints hi
  have lenV := hi.length
  have core : ∀ H : Hp, Only H → SqL K H a (ns.map V.int) → HOk P w H s₁.heap → (∀ b, H b ≠ none → b = a) → (H a ≠ none → K.lookup a = none) →
      codeAny (model P w) callerA (.call (.ref fa) ⟨[.ref a], []⟩) (fun r s' => r = .ok (.ret (.bool true)) ∧ OldK s₁.heap s'.heap ∧ s'.os = s₁.os ∧ AllBare s'.gens) s₁ := by
    intro H hO hS hok hA hK
    have base_of : ∀ {b : Addr} {o : Obj}, s₁.heap.get? b = some o → H b = none → (hidT s₁.heap H).get? b = some o := fun e n => hidT_get e n
    have noA : ∀ {b : Addr} {o : Obj} {es : Array DictEntry} {ep : Nat}, s₁.heap.get? b = some o → o.data = .dict es ep → H b = none := fun {b o es ep} e d => by
      cases q : H b with
      | none => rfl
      | some u =>
        have e' : b = a := hA b (by rw [q]; simp)
        subst e'
        rw [ha] at e; cases e
        have d' : Data.seq vs.toArray _ = Data.dict es ep := d
        cases d'
    have nsK : ∀ {b : Addr} {m : Str → Option Value}, s₁.heap.Ns b m → (hidT s₁.heap H).Ns b m := fun {b m} ⟨o, es, ep, e, d, r⟩ => ⟨o, es, ep, base_of e (noA e d), d, r⟩
    have hKb : K.In (hidT s₁.heap H) := fun b o e => base_of (KX b o e) (by
      cases q : H b with
      | none => rfl
      | some u =>
        have e' : b = a := hA b (by rw [q]; simp)
        subst e'
        rw [hK (by rw [q]; simp)] at e; cases e)
    have hM : Mod K mg (hidT s₁.heap H) := ⟨hKb, nsK hns, ⟨mb, nsK hb, hbb⟩, let ⟨mc, h1, h2⟩ := hlim; ⟨mc, nsK h1, h2⟩⟩
    have e0 : Env0 P w K mg (hidT s₁.heap H) callerA [] s₁ H := ⟨rfl, hM, fun b o e => of_hidT e, Nat.le_of_eq (hidT_size _ _), trivial, fun b hb => absurd (show b ∈ ([] : List Addr) from hb) (by simp), hok, .of_eq hg⟩
    refine codeAny_mono ((F _ hKb (nsK hns)).run callerA [] s₁ H ⟨[.ref a], []⟩ [.ref a] [.ref a] _ _ hr rfl e0 (hbind s₁ (.ref a)) (.cons rfl .nil) (hsp H hO hS)) fun r s' h => ?_
    cases r with
    | error e => exact (hCX H e s' h).elim
    | ok fl =>
      cases fl with
      | next => exact False.elim h
      | brk => exact False.elim h
      | cont => exact False.elim h
      | ret u =>
        obtain ⟨v, H', os, bare, un, hok', r', q⟩ := h
        have q' : v = .bl true := q
        subst q'
        obtain rfl : u = Value.bool true := r'
        refine ⟨rfl, OldK.of_keep fun b o e => ?_, os, bare⟩
        cases q : H b with
        | none => exact un.keep b o e q (by intro z; exact absurd (show b ∈ ([] : List Addr) from z) (by simp)) (by simp)
        | some u =>
          rcases hO b with z | ⟨ob, xs, z⟩
          · rw [q] at z; cases z
          · have z2 := un.frzs b ob _ z
            obtain ⟨e1, _⟩ := hok b _ z
            obtain ⟨e2, _⟩ := hok' b _ z2
            rw [e] at e1; cases e1
            exact e2
  cases hk : K.lookup a with
  | some o =>
    have e := KX a o hk
    rw [ha] at e
    cases e
    refine core (fun _ => none) (fun _ => .inl rfl) (.inr ⟨_, vs.toArray, _, hk, rfl, rfl, rfl, by rw [List.size_toArray, lenV]; exact hl, by simpa using rv⟩) (fun b u z => by have z' : (none : Option HO) = some u := z; cases z') (fun b z => absurd rfl z) fun z => absurd rfl z
  | none =>
    refine core (fun b => if b = a then some (.frz { cls := .type "list", data := .seq vs.toArray } (.lst (ns.map V.int))) else none) (fun b => ?_) (.inl (.inr ⟨{ cls := .type "list", data := .seq vs.toArray }, if_pos rfl⟩)) (fun b u z => ?_) (fun b z => ?_) fun _ => hk
    · by_cases hb : b = a
      · exact .inr ⟨_, _, if_pos hb⟩
      · exact .inl (if_neg hb)
    · by_cases hb : b = a
      · have z' := (if_pos hb).symm.trans z
        cases z'
        subst hb
        exact ⟨ha, by rw [List.length_map]; exact hl, vs, _, rv, ha⟩
      · have z' := (if_neg hb).symm.trans z
        cases z'
    · by_cases hb : b = a
      · exact hb
      · exact absurd (if_neg hb) z
theorem walk_ofG {l : PySem.W.OpenLaw} {n k : Nat} {q : Program} {loose : List Str} {XP : (Str → Option Value) → Heap → Prop} {YP : World → Heap → Prop} {d : DefRec} {CX : CXT} {x : Str}
    (hn : l.most = some n) (hn2 : n ≤ sizeLine) (hdf : d.params.defaults = []) (hr : Room k callerA)
    (F : ∀ (w : World) (mg : Str → Option Value) (fa : Addr) (h : Heap), YP w h → h.Ns mainGlobals mg → mg d.name = some (.ref fa) →
      ∃ (K : PySem.W.Frag) (fd : FuncData) (sp : Sp), K.In h ∧ (∀ (s : Shared) (u : Value), BindsTo s fd ⟨[u], []⟩ [(x, u)]) ∧
        (∀ (H : Hp) (a : Addr) (ns : List Int), ns.length ≤ n → Only H → SqL K H a (ns.map V.int) → sp [.ref a] H (fun v _ => v = .bl true) fun _ _ _ => False) ∧
        ∀ base : Heap, K.In base → base.Ns mainGlobals mg → FnG l.prog w K mg base CX k fa fd [x] sp)
    (hCX : ∀ (H : Hp) (s : Shared) (e : Value) (s' : Shared), CX [] H s (fun _ _ _ => False) e s' → False) :
    PySem.W.WalkO q loose XP YP l.row.toRowW d [] (fun f vs => PySem.call f vs) := by
  refine Att.attach_call hn hdf fun w s₀ s₁ mg mb fa o pm cd doc a vs ns G Y ho hd hcd hmg hobj hints hlen hg => ?_
  obtain ⟨K, fd, sp, KX, hb, hsp, hF⟩ := F w mg fa _ Y G.T.g hmg
  exact law_callG KX G.T.g G.T.b G.T.builtins G.T.nolimit hg hobj hints (Nat.le_trans hlen hn2) hr hF hb (fun H hO hS => hsp H a ns hlen hO hS) fun H e s' => hCX H s₁ e s'
end E64
/-! data without a dict of nine entries -/
namespace E64
open PySem
mutual
/-- no dict of nine in d -/
def no9 : D → Bool
  | .tup xs => no9L xs
  | .lst xs => no9L xs
  | .prs xs => no9L xs
  | .dct kvs => !(kvs.length == 9) && no9K kvs
  | _ => true
def no9L : List D → Bool
  | [] => true
  | d :: ds => no9 d && no9L ds
def no9K : List (Str × D) → Bool
  | [] => true
  | (_, d) :: ds => no9 d && no9K ds
end
theorem no9L_mem : ∀ {ds : List D}, no9L ds = true → ∀ d ∈ ds, no9 d = true
  | [], _, _, h => nomatch h
  | x :: xs, h, d, hd => by
    simp only [no9L, Bool.and_eq_true] at h
    rcases List.mem_cons.mp hd with rfl | z
    · exact h.1
    · exact no9L_mem h.2 d z
theorem no9L_of : ∀ {ds : List D}, (∀ d ∈ ds, no9 d = true) → no9L ds = true
  | [], _ => by simp [no9L]
  | x :: xs, h => by
    simp only [no9L, Bool.and_eq_true]
    exact ⟨h x List.mem_cons_self, no9L_of fun d hd => h d (List.mem_cons_of_mem _ hd)⟩
theorem no9K_of : ∀ {ds : List (PySem.Str × D)}, (∀ d ∈ ds, no9 d.2 = true) → no9K ds = true
  | [], _ => by simp [no9K]
  | (k, x) :: xs, h => by
    simp only [no9K, Bool.and_eq_true]
    exact ⟨h (k, x) List.mem_cons_self, no9K_of fun d hd => h d (List.mem_cons_of_mem _ hd)⟩
end E64
/-! the defs of the text: what each call wants -/
namespace E64
open PySem PySem.Spec PyProof.Rows L2
def top (i : Nat) : Stmt := PySem.Challenge.pw_effectonce_k64_whole_all_that_is_told.main.body.getD i (.Pass ⟨0, 0, 0, 0⟩)
/-- a def that is called by its name -/
structure Fn (P : Program) (w : World) (K : PySem.W.Frag) (mg : Str → Option Value) (base : Heap) (k n : Nat) (x : Str) (g : List D → (D → Prop) → Prop) : Prop where
  ex : ∃ (f : Addr) (fd : FuncData) (ps : List Str), FnOk P w K mg base CX0 k f fd ps (spD K n g) ∧ mg x = some (.ref f) ∧ PySem.W.keepIn K (.ref f) = true ∧ Binds K fd ps []
structure FnGn (P : Program) (w : World) (K : PySem.W.Frag) (mg : Str → Option Value) (base : Heap) (k n : Nat) (x : Str) (g : List D → (D → Prop) → Prop) : Prop where
  ex : ∃ (f : Addr) (fd : FuncData) (ps : List Str), FnG P w K mg base CX0 k f fd ps (spD K n g) ∧ mg x = some (.ref f) ∧ PySem.W.keepIn K (.ref f) = true ∧ Binds K fd ps []
/-- the built-in names are free -/
structure Bl (mg : Str → Option Value) : Prop where
  len_ : mg "len" = none
  tuple_ : mg "tuple" = none
  dict_ : mg "dict" = none
  list_ : mg "list" = none
  sorted_ : mg "sorted" = none
  repr_ : mg "repr" = none
  range_ : mg "range" = none
  int_ : mg "int" = none
  abs_ : mg "abs" = none
  max_ : mg "max" = none
  enumerate_ : mg "enumerate" = none
section
variable {X : Cx} {j k n : Nat} {x : Str} {p pos : Pos} {e : Expr} {es : List Expr} {g : List D → (D → Prop) → Prop} {ca : CA}
theorem de_callN (c : Fn X.prog X.w X.K X.mg X.base k n x g) (hr : Room k X.A) (hg : Gl X x) (ha : DL X (e :: es) ca) (hdb : (x == ("__debug__" : Str)) = false := by decide)
    (he : starEach (e :: es) X.env = (false, eval e X.env) :: starEach es X.env := by rfl) (hpl : (backTo pos (starEach es X.env)).any (·.1) = false := by rfl) : DE X (.Call (.Name x p) (e :: es) [] pos) (cCall n g ca) := by
  obtain ⟨f, fd, ps, F, hm, kp, hb⟩ := c.ex
  exact de_call F hr hg hm kp hb ha hdb he hpl
theorem de_callNG (c : FnGn X.prog X.w X.K X.mg X.base k n x g) (hr : Room k X.A) (hgd : X.A.guards = some []) (hg : Gl X x) (ha : DL X (e :: es) ca) (hdb : (x == ("__debug__" : Str)) = false := by decide)
    (he : starEach (e :: es) X.env = (false, eval e X.env) :: starEach es X.env := by rfl) (hpl : (backTo pos (starEach es X.env)).any (·.1) = false := by rfl) : DE X (.Call (.Name x p) (e :: es) [] pos) (cCall n g ca) := by
  obtain ⟨f, fd, ps, F, hm, kp, hb⟩ := c.ex
  exact de_callG F hr hgd hg hm kp hb ha hdb he hpl
end
end E64
namespace E64
open PySem PySem.Spec PyProof.Rows L2
/-! names of jobs -/
abbrev s_names_of_jobs : Stmt := top 1
abbrev N_names_of_jobs : List Str := ["book", "job"]
theorem sc_names_of_jobs : FnScope N_names_of_jobs ["book"] (defScope s_names_of_jobs) := C8.fnScope_by (by decide +kernel)
def c_names_of_jobs : CS := sRet (cCB fTuple (aCons (cComp (wTup (cOp fIx (cVar 0) (cC (.int 1)))) [1] (gN 1) (bYes) (cOp fIx (cVar 1) (cC (.int 0)))) (aNil)))
def g_names_of_jobs : List D → (D → Prop) → Prop := fun ds Q => c_names_of_jobs (env0 N_names_of_jobs ds) (fun _ => Q .non) Q
theorem w_names_of_jobs {P : Program} {w : World} {K : PySem.W.Frag} {mg : Str → Option Value} {base : Heap} {f : Addr} {fd : FuncData} (B : Bl mg) (F : FunD K "names_of_jobs" "names_of_jobs" (defArgs s_names_of_jobs) (defBody s_names_of_jobs) (defScope s_names_of_jobs) [] [] f fd) (hm : mg "names_of_jobs" = some (.ref f)) : Fn P w K mg base 1 1 "names_of_jobs" g_names_of_jobs := by
  refine ⟨f, fd, _, fn_d F sc_names_of_jobs rfl (fun cdv A outer s H E hr => ?_) (fun _ _ _ h => h), hm, F.kp, F.bindsN fun _ _ _ _ _ _ us hl => match us, hl with | [_], _ => rfl⟩
  have nd := sc_names_of_jobs.nd
  have hu1 := room_u1 hr
  have hu64 := room_u64 hr
  exact ds_one (ds_ret (de_tuple rfl B.tuple_ (dl_cons (de_of (df_comp (own := [("job", 1)]) (is := [1]) rfl nd (di_tup (de_ix (dv 0) (de_int))) (blkOk_by (by kernel_rfl)) (fun _ _ _ _ _ => dg_name (pg_name nd rfl (by first | exact .inl rfl | exact .inr rfl))) (fun _ _ _ _ _ => dts_nil) (fun _ _ _ _ _ => de_ix (dv 1) (de_int)))) (dl_nil))))

/-! job of -/
abbrev s_job_of : Stmt := top 2
abbrev N_job_of : List Str := ["book", "name", "job"]
theorem sc_job_of : FnScope N_job_of ["book", "name"] (defScope s_job_of) := C8.fnScope_by (by decide +kernel)
def c_job_of : CS := sSeq (sFor (wTup (cOp fIx (cVar 0) (cC (.int 1)))) (gN 2) (sIf (cTest (cOp fEq (cOp fIx (cVar 2) (cC (.int 0))) (cVar 1))) (sRet (cVar 2)) (sNil)))
  (sRet (cC .non))
def g_job_of : List D → (D → Prop) → Prop := fun ds Q => c_job_of (env0 N_job_of ds) (fun _ => Q .non) Q
theorem w_job_of {P : Program} {w : World} {K : PySem.W.Frag} {mg : Str → Option Value} {base : Heap} {f : Addr} {fd : FuncData} (B : Bl mg) (F : FunD K "job_of" "job_of" (defArgs s_job_of) (defBody s_job_of) (defScope s_job_of) [] [] f fd) (hm : mg "job_of" = some (.ref f)) : Fn P w K mg base 1 2 "job_of" g_job_of := by
  refine ⟨f, fd, _, fn_d F sc_job_of rfl (fun cdv A outer s H E hr => ?_) (fun _ _ _ h => h), hm, F.kp, F.bindsN fun _ _ _ _ _ _ us hl => match us, hl with | [_, _], _ => rfl⟩
  have nd := sc_job_of.nd
  have hu1 := room_u1 hr
  have hu64 := room_u64 hr
  exact ds_cons (ds_for (is := [2]) rfl (di_tup (de_ix (dv 0) (de_int))) (dg_name (pg_name nd rfl (by first | exact .inl rfl | exact .inr rfl))) (ds_one (ds_if (dt_eq hu64 (de_ix (dv 2) (de_int)) (dv 1)) (ds_one (ds_ret (dv 2))) (ds_nil))))
    (ds_one (ds_ret (de_non)))

/-! ends in -/
abbrev s_ends_in : Stmt := top 5
abbrev N_ends_in : List Str := ["store", "job"]
theorem sc_ends_in : FnScope N_ends_in ["store", "job"] (defScope s_ends_in) := C8.fnScope_by (by decide +kernel)
def c_ends_in : CS := sRet (cGetN (cDGet (cVar 0) (cC (.str "ends"))) (cVar 1) (cTup (aNil)))
def g_ends_in : List D → (D → Prop) → Prop := fun ds Q => c_ends_in (env0 N_ends_in ds) (fun _ => Q .non) Q
theorem w_ends_in {P : Program} {w : World} {K : PySem.W.Frag} {mg : Str → Option Value} {base : Heap} {f : Addr} {fd : FuncData} (B : Bl mg) (F : FunD K "ends_in" "ends_in" (defArgs s_ends_in) (defBody s_ends_in) (defScope s_ends_in) [] [] f fd) (hm : mg "ends_in" = some (.ref f)) : Fn P w K mg base 1 2 "ends_in" g_ends_in := by
  refine ⟨f, fd, _, fn_d F sc_ends_in rfl (fun cdv A outer s H E hr => ?_) (fun _ _ _ h => h), hm, F.kp, F.bindsN fun _ _ _ _ _ _ us hl => match us, hl with | [_, _], _ => rfl⟩
  have nd := sc_ends_in.nd
  have hu1 := room_u1 hr
  have hu64 := room_u64 hr
  exact ds_one (ds_ret (de_getN hu1 (de_dget hu1 (dv 0) (de_str)) (dv 1) (de_tup (dl_nil))))

/-! outcome in -/
abbrev s_outcome_in : Stmt := top 6
abbrev N_outcome_in : List Str := ["store", "job", "told", "ends"]
theorem sc_outcome_in : FnScope N_outcome_in ["store", "job"] (defScope s_outcome_in) := C8.fnScope_by (by decide +kernel)
def c_outcome_in : CS := sSeq (sIf (cDIn (cVar 1) (cDGet (cVar 0) (cC (.str "barred")))) (sRet (cTup (aCons (cC (.str "barred")) (aCons (cDGet (cDGet (cVar 0) (cC (.str "barred"))) (cVar 1)) (aNil))))) (sNil))
  (sSeq (sPar [2, 3] (aCons (cCall 2 g_job_of (aCons (cDGet (cVar 0) (cC (.str "book"))) (aCons (cVar 1) (aNil)))) (aCons (cCall 2 g_ends_in (aCons (cVar 0) (aCons (cVar 1) (aNil)))) (aNil))))
  (sSeq (sIf (cAnd (cTest (cOp fNe (cVar 3) (cTup (aNil)))) (cTest (cOp fEq (cOp fIx (cOp fIx (cVar 3) (cUn fNeg (cC (.int 1)))) (cC (.int 0))) (cC (.str "done"))))) (sRet (cTup (aCons (cC (.str "done")) (aCons (cCB fLen (aCons (cVar 3) (aNil))) (aCons (cOp fIx (cOp fIx (cVar 3) (cUn fNeg (cC (.int 1)))) (cC (.int 5))) (aNil)))))) (sNil))
  (sRet (cIf (cTest (cOp fEq (cCB fLen (aCons (cVar 3) (aNil))) (cOp fIx (cVar 2) (cC (.int 6))))) (cTup (aCons (cC (.str "failed")) (aCons (cOp fIx (cVar 2) (cC (.int 6))) (aNil)))) (cC .non)))))
def g_outcome_in : List D → (D → Prop) → Prop := fun ds Q => c_outcome_in (env0 N_outcome_in ds) (fun _ => Q .non) Q
theorem w_outcome_in {P : Program} {w : World} {K : PySem.W.Frag} {mg : Str → Option Value} {base : Heap} {f : Addr} {fd : FuncData} (B : Bl mg) (h_ends_in : Fn P w K mg base 1 2 "ends_in" g_ends_in) (h_job_of : Fn P w K mg base 1 2 "job_of" g_job_of) (F : FunD K "outcome_in" "outcome_in" (defArgs s_outcome_in) (defBody s_outcome_in) (defScope s_outcome_in) [] [] f fd) (hm : mg "outcome_in" = some (.ref f)) : Fn P w K mg base 2 2 "outcome_in" g_outcome_in := by
  refine ⟨f, fd, _, fn_d F sc_outcome_in rfl (fun cdv A outer s H E hr => ?_) (fun _ _ _ h => h), hm, F.kp, F.bindsN fun _ _ _ _ _ _ us hl => match us, hl with | [_, _], _ => rfl⟩
  have nd := sc_outcome_in.nd
  have hu1 := room_u1 hr
  have hu64 := room_u64 hr
  exact ds_cons (ds_if (dt_din hu1 (dv 1) (de_dget hu1 (dv 0) (de_str))) (ds_one (ds_ret (de_tup (dl_cons (de_str) (dl_cons (de_dget hu1 (de_dget hu1 (dv 0) (de_str)) (dv 1)) (dl_nil)))))) (ds_nil))
    (ds_cons (ds_par2 (ps_par rfl nd rfl rfl (by decide) rfl rfl (dl_cons (de_callN h_job_of (hr.mono (by decide)) rfl (dl_cons (de_dget hu1 (dv 0) (de_str)) (dl_cons (dv 1) (dl_nil)))) (dl_cons (de_callN h_ends_in (hr.mono (by decide)) rfl (dl_cons (dv 0) (dl_cons (dv 1) (dl_nil)))) (dl_nil))) rfl) (fun _ _ _ h => h))
    (ds_cons (ds_if (dt_w (dw_and (dt_ne hu64 (dv 3) (de_tup (dl_nil))) (dw_and1 (dt_eq hu64 (de_ix (de_ix (dv 3) (de_neg (de_int))) (de_int)) (de_str))))) (ds_one (ds_ret (de_tup (dl_cons (de_str) (dl_cons (de_len rfl B.len_ (dl_cons (dv 3) (dl_nil))) (dl_cons (de_ix (de_ix (dv 3) (de_neg (de_int))) (de_int)) (dl_nil))))))) (ds_nil))
    (ds_one (ds_ret (de_if (dt_eq hu64 (de_len rfl B.len_ (dl_cons (dv 3) (dl_nil))) (de_ix (dv 2) (de_int))) (de_tup (dl_cons (de_str) (dl_cons (de_ix (dv 2) (de_int)) (dl_nil)))) (de_non))))))
end E64
namespace E64
open PySem PySem.Spec PyProof.Rows L2
/-! new store -/
abbrev s_new_store : Stmt := top 4
abbrev N_new_store : List Str := ["book", "start"]
theorem sc_new_store : FnScope N_new_store ["book"] (defScope s_new_store) := C8.fnScope_by (by decide +kernel)
def c_new_store : CS := sSeq (sSet 1 (cDisp [("book", cVar 0), ("time", cC (.int 0)), ("epoch", cC (.int 0)), ("moment", cC (.int 0)), ("fence", cC (.int 0))]))
  (sRet (cDisp1 (cVar 1) [(cC (.str "holds"), cC (.dct [])), (cC (.str "ends"), cC (.dct [])), (cC (.str "barred"), cC (.dct [])), (cC (.str "freed"), cTup (aNil))]))
def g_new_store : List D → (D → Prop) → Prop := fun ds Q => c_new_store (env0 N_new_store ds) (fun _ => Q .non) Q
theorem w_new_store {P : Program} {w : World} {K : PySem.W.Frag} {mg : Str → Option Value} {base : Heap} {f : Addr} {fd : FuncData} (B : Bl mg) (F : FunD K "new_store" "new_store" (defArgs s_new_store) (defBody s_new_store) (defScope s_new_store) [] [] f fd) (hm : mg "new_store" = some (.ref f)) : Fn P w K mg base 1 1 "new_store" g_new_store := by
  refine ⟨f, fd, _, fn_d F sc_new_store rfl (fun cdv A outer s H E hr => ?_) (fun _ _ _ h => h), hm, F.kp, F.bindsN fun _ _ _ _ _ _ us hl => match us, hl with | [_], _ => rfl⟩
  have nd := sc_new_store.nd
  have hu1 := room_u1 hr
  have hu64 := room_u64 hr
  exact ds_cons (ds_set nd (de_of (df_disp (dps_cons (dv 0) (dps_cons (de_int) (dps_cons (de_int) (dps_cons (de_int) (dps_cons (de_int) (dps_nil)))))))))
    (ds_one (ds_ret (de_of (df_disp1 (dv 1) (dps2_cons (de_str) (de_of (df_dnew)) (dps2_cons (de_str) (de_of (df_dnew)) (dps2_cons (de_str) (de_of (df_dnew)) (dps2_cons (de_str) (de_tup (dl_nil)) (dps2_nil)))))))))

/-! has ended -/
abbrev s_has_ended : Stmt := top 7
abbrev N_has_ended : List Str := ["store", "job"]
theorem sc_has_ended : FnScope N_has_ended ["store", "job"] (defScope s_has_ended) := C8.fnScope_by (by decide +kernel)
def c_has_ended : CS := sRet (cOp fIsNot (cCall 2 g_outcome_in (aCons (cVar 0) (aCons (cVar 1) (aNil)))) (cC .non))
def g_has_ended : List D → (D → Prop) → Prop := fun ds Q => c_has_ended (env0 N_has_ended ds) (fun _ => Q .non) Q
theorem w_has_ended {P : Program} {w : World} {K : PySem.W.Frag} {mg : Str → Option Value} {base : Heap} {f : Addr} {fd : FuncData} (B : Bl mg) (h_outcome_in : Fn P w K mg base 2 2 "outcome_in" g_outcome_in) (F : FunD K "has_ended" "has_ended" (defArgs s_has_ended) (defBody s_has_ended) (defScope s_has_ended) [] [] f fd) (hm : mg "has_ended" = some (.ref f)) : Fn P w K mg base 3 2 "has_ended" g_has_ended := by
  refine ⟨f, fd, _, fn_d F sc_has_ended rfl (fun cdv A outer s H E hr => ?_) (fun _ _ _ h => h), hm, F.kp, F.bindsN fun _ _ _ _ _ _ us hl => match us, hl with | [_, _], _ => rfl⟩
  have nd := sc_has_ended.nd
  have hu1 := room_u1 hr
  have hu64 := room_u64 hr
  exact ds_one (ds_ret (de_isnot (de_callN h_outcome_in (hr.mono (by decide)) rfl (dl_cons (dv 0) (dl_cons (dv 1) (dl_nil)))) (de_non)))

/-! is done in -/
abbrev s_is_done_in : Stmt := top 8
abbrev N_is_done_in : List Str := ["store", "job", "outcome"]
theorem sc_is_done_in : FnScope N_is_done_in ["store", "job"] (defScope s_is_done_in) := C8.fnScope_by (by decide +kernel)
def c_is_done_in : CS := sSeq (sSet 2 (cCall 2 g_outcome_in (aCons (cVar 0) (aCons (cVar 1) (aNil)))))
  (sRet (cAndV (cOp fIsNot (cVar 2) (cC .non)) (cOp fEq (cOp fIx (cVar 2) (cC (.int 0))) (cC (.str "done")))))
def g_is_done_in : List D → (D → Prop) → Prop := fun ds Q => c_is_done_in (env0 N_is_done_in ds) (fun _ => Q .non) Q
theorem w_is_done_in {P : Program} {w : World} {K : PySem.W.Frag} {mg : Str → Option Value} {base : Heap} {f : Addr} {fd : FuncData} (B : Bl mg) (h_outcome_in : Fn P w K mg base 2 2 "outcome_in" g_outcome_in) (F : FunD K "is_done_in" "is_done_in" (defArgs s_is_done_in) (defBody s_is_done_in) (defScope s_is_done_in) [] [] f fd) (hm : mg "is_done_in" = some (.ref f)) : Fn P w K mg base 3 2 "is_done_in" g_is_done_in := by
  refine ⟨f, fd, _, fn_d F sc_is_done_in rfl (fun cdv A outer s H E hr => ?_) (fun _ _ _ h => h), hm, F.kp, F.bindsN fun _ _ _ _ _ _ us hl => match us, hl with | [_, _], _ => rfl⟩
  have nd := sc_is_done_in.nd
  have hu1 := room_u1 hr
  have hu64 := room_u64 hr
  exact ds_cons (ds_set nd (de_callN h_outcome_in (hr.mono (by decide)) rfl (dl_cons (dv 0) (dl_cons (dv 1) (dl_nil)))))
    (ds_one (ds_ret (de_and (de_isnot (dv 2) (de_non)) (de_one (de_eq hu64 (de_ix (dv 2) (de_int)) (de_str))))))

/-! results in -/
abbrev s_results_in : Stmt := top 9
abbrev N_results_in : List Str := ["store", "job", "needs", "need"]
theorem sc_results_in : FnScope N_results_in ["store", "job"] (defScope s_results_in) := C8.fnScope_by (by decide +kernel)
def c_results_in : CS := sSeq (sSet 2 (cOp fIx (cCall 2 g_job_of (aCons (cDGet (cVar 0) (cC (.str "book"))) (aCons (cVar 1) (aNil)))) (cC (.int 2))))
  (sRet (cCB fTuple (aCons (cComp (wTup (cVar 2)) [3] (gN 3) (bYes) (cTup (aCons (cVar 3) (aCons (cIf (cTru (cCall 2 g_is_done_in (aCons (cVar 0) (aCons (cVar 3) (aNil))))) (cOp fIx (cCall 2 g_outcome_in (aCons (cVar 0) (aCons (cVar 3) (aNil)))) (cC (.int 2))) (cC .non)) (aNil))))) (aNil))))
def g_results_in : List D → (D → Prop) → Prop := fun ds Q => c_results_in (env0 N_results_in ds) (fun _ => Q .non) Q
theorem w_results_in {P : Program} {w : World} {K : PySem.W.Frag} {mg : Str → Option Value} {base : Heap} {f : Addr} {fd : FuncData} (B : Bl mg) (h_job_of : Fn P w K mg base 1 2 "job_of" g_job_of) (h_is_done_in : Fn P w K mg base 3 2 "is_done_in" g_is_done_in) (h_outcome_in : Fn P w K mg base 2 2 "outcome_in" g_outcome_in) (F : FunD K "results_in" "results_in" (defArgs s_results_in) (defBody s_results_in) (defScope s_results_in) [] [] f fd) (hm : mg "results_in" = some (.ref f)) : Fn P w K mg base 4 2 "results_in" g_results_in := by
  refine ⟨f, fd, _, fn_d F sc_results_in rfl (fun cdv A outer s H E hr => ?_) (fun _ _ _ h => h), hm, F.kp, F.bindsN fun _ _ _ _ _ _ us hl => match us, hl with | [_, _], _ => rfl⟩
  have nd := sc_results_in.nd
  have hu1 := room_u1 hr
  have hu64 := room_u64 hr
  exact ds_cons (ds_set nd (de_ix (de_callN h_job_of (hr.mono (by decide)) rfl (dl_cons (de_dget hu1 (dv 0) (de_str)) (dl_cons (dv 1) (dl_nil)))) (de_int)))
    (ds_one (ds_ret (de_tuple rfl B.tuple_ (dl_cons (de_of (df_comp (own := [("need", 3)]) (is := [3]) rfl nd (di_tup (dv 2)) (blkOk_by (by kernel_rfl)) (fun _ _ _ _ _ => dg_name (pg_name nd rfl (by first | exact .inl rfl | exact .inr rfl))) (fun _ _ _ _ _ => dts_nil) (fun _ _ _ _ _ => de_tup (dl_cons (dv 3) (dl_cons (de_if (dt_tru (de_callN h_is_done_in (hr.mono (by decide)) rfl (dl_cons (dv 0) (dl_cons (dv 3) (dl_nil))))) (de_ix (de_callN h_outcome_in (hr.mono (by decide)) rfl (dl_cons (dv 0) (dl_cons (dv 3) (dl_nil)))) (de_int)) (de_non)) (dl_nil)))))) (dl_nil)))))

/-! attempt in -/
abbrev s_attempt_in : Stmt := top 10
abbrev N_attempt_in : List Str := ["store", "job"]
theorem sc_attempt_in : FnScope N_attempt_in ["store", "job"] (defScope s_attempt_in) := C8.fnScope_by (by decide +kernel)
def c_attempt_in : CS := sRet (cOp fAdd (cCB fLen (aCons (cCall 2 g_ends_in (aCons (cVar 0) (aCons (cVar 1) (aNil)))) (aNil))) (cC (.int 1)))
def g_attempt_in : List D → (D → Prop) → Prop := fun ds Q => c_attempt_in (env0 N_attempt_in ds) (fun _ => Q .non) Q
theorem w_attempt_in {P : Program} {w : World} {K : PySem.W.Frag} {mg : Str → Option Value} {base : Heap} {f : Addr} {fd : FuncData} (B : Bl mg) (h_ends_in : Fn P w K mg base 1 2 "ends_in" g_ends_in) (F : FunD K "attempt_in" "attempt_in" (defArgs s_attempt_in) (defBody s_attempt_in) (defScope s_attempt_in) [] [] f fd) (hm : mg "attempt_in" = some (.ref f)) : Fn P w K mg base 2 2 "attempt_in" g_attempt_in := by
  refine ⟨f, fd, _, fn_d F sc_attempt_in rfl (fun cdv A outer s H E hr => ?_) (fun _ _ _ h => h), hm, F.kp, F.bindsN fun _ _ _ _ _ _ us hl => match us, hl with | [_, _], _ => rfl⟩
  have nd := sc_attempt_in.nd
  have hu1 := room_u1 hr
  have hu64 := room_u64 hr
  exact ds_one (ds_ret (de_add (de_len rfl B.len_ (dl_cons (de_callN h_ends_in (hr.mono (by decide)) rfl (dl_cons (dv 0) (dl_cons (dv 1) (dl_nil)))) (dl_nil))) (de_int)))

/-! free units -/
abbrev s_free_units : Stmt := top 11
abbrev N_free_units : List Str := ["store", "free", "job", "thing", "units"]
theorem sc_free_units : FnScope N_free_units ["store"] (defScope s_free_units) := C8.fnScope_by (by decide +kernel)
def c_free_units : CS := sSeq (sOwn 1 (cCB fDict (aCons (cOp fIx (cDGet (cVar 0) (cC (.str "book"))) (cC (.int 0))) (aNil))))
  (sSeq (sFor (wKeys (cPk 0 "holds")) (gN 2) (sFor (wTup (cOp fIx (cCall 2 g_job_of (aCons (cDGet (cVar 0) (cC (.str "book"))) (aCons (cVar 2) (aNil)))) (cC (.int 4)))) (gT [3, 4]) (sSubO 1 (cVar 3) (cVar 4))))
  (sRet (cCB fTuple (aCons (cComp (wTup (cOp fIx (cDGet (cVar 0) (cC (.str "book"))) (cC (.int 0)))) [3, 4] (gT [3, 4]) (bYes) (cTup (aCons (cVar 3) (aCons (cGetO 1 (cVar 3)) (aNil))))) (aNil)))))
def g_free_units : List D → (D → Prop) → Prop := fun ds Q => c_free_units (env0 N_free_units ds) (fun _ => Q .non) Q
theorem w_free_units {P : Program} {w : World} {K : PySem.W.Frag} {mg : Str → Option Value} {base : Heap} {f : Addr} {fd : FuncData} (B : Bl mg) (h_job_of : Fn P w K mg base 1 2 "job_of" g_job_of) (F : FunD K "free_units" "free_units" (defArgs s_free_units) (defBody s_free_units) (defScope s_free_units) [] [] f fd) (hm : mg "free_units" = some (.ref f)) : Fn P w K mg base 2 1 "free_units" g_free_units := by
  refine ⟨f, fd, _, fn_d F sc_free_units rfl (fun cdv A outer s H E hr => ?_) (fun _ _ _ h => h), hm, F.kp, F.bindsN fun _ _ _ _ _ _ us hl => match us, hl with | [_], _ => rfl⟩
  have nd := sc_free_units.nd
  have hu1 := room_u1 hr
  have hu64 := room_u64 hr
  exact ds_cons (ds_own nd (df_dict rfl rfl B.dict_ (dl_cons (de_ix (de_dget hu1 (dv 0) (de_str)) (de_int)) (dl_nil))))
    (ds_cons (ds_forK (is := [2]) rfl (pe_dget hu1 (pv 0) pe_str (fun _ _ => rfl)) path_k (dg_name (pg_name nd rfl (by first | exact .inl rfl | exact .inr rfl))) (ds_one (ds_for (is := [3, 4]) rfl (di_tup (de_ix (de_callN h_job_of (hr.mono (by decide)) rfl (dl_cons (de_dget hu1 (dv 0) (de_str)) (dl_cons (dv 2) (dl_nil)))) (de_int))) (dg_tup (is := [3, 4]) rfl (pgs_cons (pg_name nd rfl (by first | exact .inl rfl | exact .inr rfl)) (pgs_cons (pg_name nd rfl (by first | exact .inl rfl | exact .inr rfl)) (pgs_nil)))) (ds_one (ds_subO hu1 (pv 1) (dv 3) (dv 4))))))
    (ds_one (ds_ret (de_tuple rfl B.tuple_ (dl_cons (de_of (df_comp (own := [("thing", 3), ("units", 4)]) (is := [3, 4]) rfl nd (di_tup (de_ix (de_dget hu1 (dv 0) (de_str)) (de_int))) (blkOk_by (by kernel_rfl)) (fun _ _ _ _ _ => dg_tup (is := [3, 4]) rfl (pgs_cons (pg_name nd rfl (by first | exact .inl rfl | exact .inr rfl)) (pgs_cons (pg_name nd rfl (by first | exact .inl rfl | exact .inr rfl)) (pgs_nil)))) (fun _ _ _ _ _ => dts_nil) (fun _ _ _ _ _ => de_tup (dl_cons (dv 3) (dl_cons (de_getO hu1 (pv 1) (dv 3)) (dl_nil)))))) (dl_nil))))))

/-! still open -/
abbrev s_still_open : Stmt := top 12
abbrev N_still_open : List Str := ["store", "job"]
theorem sc_still_open : FnScope N_still_open ["store"] (defScope s_still_open) := C8.fnScope_by (by decide +kernel)
def c_still_open : CS := sRet (cCB fTuple (aCons (cComp (wTup (cCall 1 g_names_of_jobs (aCons (cDGet (cVar 0) (cC (.str "book"))) (aNil)))) [1] (gN 1) (cNot (cTru (cCall 2 g_has_ended (aCons (cVar 0) (aCons (cVar 1) (aNil)))))) (cVar 1)) (aNil)))
def g_still_open : List D → (D → Prop) → Prop := fun ds Q => c_still_open (env0 N_still_open ds) (fun _ => Q .non) Q
theorem w_still_open {P : Program} {w : World} {K : PySem.W.Frag} {mg : Str → Option Value} {base : Heap} {f : Addr} {fd : FuncData} (B : Bl mg) (h_has_ended : Fn P w K mg base 3 2 "has_ended" g_has_ended) (h_names_of_jobs : Fn P w K mg base 1 1 "names_of_jobs" g_names_of_jobs) (F : FunD K "still_open" "still_open" (defArgs s_still_open) (defBody s_still_open) (defScope s_still_open) [] [] f fd) (hm : mg "still_open" = some (.ref f)) : Fn P w K mg base 4 1 "still_open" g_still_open := by
  refine ⟨f, fd, _, fn_d F sc_still_open rfl (fun cdv A outer s H E hr => ?_) (fun _ _ _ h => h), hm, F.kp, F.bindsN fun _ _ _ _ _ _ us hl => match us, hl with | [_], _ => rfl⟩
  have nd := sc_still_open.nd
  have hu1 := room_u1 hr
  have hu64 := room_u64 hr
  exact ds_one (ds_ret (de_tuple rfl B.tuple_ (dl_cons (de_of (df_comp (own := [("job", 1)]) (is := [1]) rfl nd (di_tup (de_callN h_names_of_jobs (hr.mono (by decide)) rfl (dl_cons (de_dget hu1 (dv 0) (de_str)) (dl_nil)))) (blkOk_by (by kernel_rfl)) (fun _ _ _ _ _ => dg_name (pg_name nd rfl (by first | exact .inl rfl | exact .inr rfl))) (fun _ _ _ _ _ => dts_one (dt_not (dt_tru (de_callN h_has_ended (hr.mono (by decide)) rfl (dl_cons (dv 0) (dl_cons (dv 1) (dl_nil))))))) (fun _ _ _ _ _ => dv 1))) (dl_nil))))

/-! hindering needs -/
abbrev s_hindering_needs : Stmt := top 13
abbrev N_hindering_needs : List Str := ["store", "job", "need"]
theorem sc_hindering_needs : FnScope N_hindering_needs ["store", "job"] (defScope s_hindering_needs) := C8.fnScope_by (by decide +kernel)
def c_hindering_needs : CS := sSeq (sIf (cTest (cOp fEq (cOp fIx (cVar 1) (cC (.int 1))) (cC (.str "all")))) (sRet (cComp (wTup (cOp fIx (cVar 1) (cC (.int 2)))) [2] (gN 2) (cNot (cTru (cCall 2 g_is_done_in (aCons (cVar 0) (aCons (cVar 2) (aNil)))))) (cVar 2))) (sNil))
  (sRet (cComp (wTup (cOp fIx (cVar 1) (cC (.int 2)))) [2] (gN 2) (cNot (cTru (cCall 2 g_has_ended (aCons (cVar 0) (aCons (cVar 2) (aNil)))))) (cVar 2)))
def g_hindering_needs : List D → (D → Prop) → Prop := fun ds Q => c_hindering_needs (env0 N_hindering_needs ds) (fun _ => Q .non) Q
theorem w_hindering_needs {P : Program} {w : World} {K : PySem.W.Frag} {mg : Str → Option Value} {base : Heap} {f : Addr} {fd : FuncData} (B : Bl mg) (h_is_done_in : Fn P w K mg base 3 2 "is_done_in" g_is_done_in) (h_has_ended : Fn P w K mg base 3 2 "has_ended" g_has_ended) (F : FunD K "hindering_needs" "hindering_needs" (defArgs s_hindering_needs) (defBody s_hindering_needs) (defScope s_hindering_needs) [] [] f fd) (hm : mg "hindering_needs" = some (.ref f)) : Fn P w K mg base 4 2 "hindering_needs" g_hindering_needs := by
  refine ⟨f, fd, _, fn_d F sc_hindering_needs rfl (fun cdv A outer s H E hr => ?_) (fun _ _ _ h => h), hm, F.kp, F.bindsN fun _ _ _ _ _ _ us hl => match us, hl with | [_, _], _ => rfl⟩
  have nd := sc_hindering_needs.nd
  have hu1 := room_u1 hr
  have hu64 := room_u64 hr
  exact ds_cons (ds_if (dt_eq hu64 (de_ix (dv 1) (de_int)) (de_str)) (ds_one (ds_ret (de_of (df_comp (own := [("need", 2)]) (is := [2]) rfl nd (di_tup (de_ix (dv 1) (de_int))) (blkOk_by (by kernel_rfl)) (fun _ _ _ _ _ => dg_name (pg_name nd rfl (by first | exact .inl rfl | exact .inr rfl))) (fun _ _ _ _ _ => dts_one (dt_not (dt_tru (de_callN h_is_done_in (hr.mono (by decide)) rfl (dl_cons (dv 0) (dl_cons (dv 2) (dl_nil))))))) (fun _ _ _ _ _ => dv 2))))) (ds_nil))
    (ds_one (ds_ret (de_of (df_comp (own := [("need", 2)]) (is := [2]) rfl nd (di_tup (de_ix (dv 1) (de_int))) (blkOk_by (by kernel_rfl)) (fun _ _ _ _ _ => dg_name (pg_name nd rfl (by first | exact .inl rfl | exact .inr rfl))) (fun _ _ _ _ _ => dts_one (dt_not (dt_tru (de_callN h_has_ended (hr.mono (by decide)) rfl (dl_cons (dv 0) (dl_cons (dv 2) (dl_nil))))))) (fun _ _ _ _ _ => dv 2)))))

/-! bars grant -/
abbrev s_bars_grant : Stmt := top 14
abbrev N_bars_grant : List Str := ["store", "job", "told", "needs", "free", "thing", "units"]
theorem sc_bars_grant : FnScope N_bars_grant ["store", "job"] (defScope s_bars_grant) := C8.fnScope_by (by decide +kernel)
def c_bars_grant : CS := sSeq (sSet 2 (cCall 2 g_job_of (aCons (cDGet (cVar 0) (cC (.str "book"))) (aCons (cVar 1) (aNil)))))
  (sSeq (sIf (cTest (cOp fIs (cVar 2) (cC .non))) (sRet (cTup (aCons (cC (.str "job")) (aNil)))) (sNil))
  (sSeq (sIf (cTru (cCall 2 g_has_ended (aCons (cVar 0) (aCons (cVar 1) (aNil))))) (sRet (cTup (aCons (cC (.str "ended")) (aNil)))) (sNil))
  (sSeq (sIf (cDIn (cVar 1) (cDGet (cVar 0) (cC (.str "holds")))) (sRet (cTup (aCons (cC (.str "held")) (aNil)))) (sNil))
  (sSeq (sIf (cTest (cOp fGt (cOp fIx (cVar 2) (cC (.int 7))) (cDGet (cVar 0) (cC (.str "time"))))) (sRet (cTup (aCons (cC (.str "early")) (aCons (cOp fIx (cVar 2) (cC (.int 7))) (aNil))))) (sNil))
  (sSeq (sPar [3, 4] (aCons (cCall 2 g_hindering_needs (aCons (cVar 0) (aCons (cVar 2) (aNil)))) (aCons (cCB fDict (aCons (cCall 1 g_free_units (aCons (cVar 0) (aNil))) (aNil))) (aNil))))
  (sSeq (sIf (cTru (cVar 3)) (sRet (cTup (aCons (cC (.str "need")) (aCons (cOp fIx (cVar 3) (cC (.int 0))) (aNil))))) (sNil))
  (sSeq (sFor (wTup (cOp fIx (cVar 2) (cC (.int 4)))) (gT [5, 6]) (sIf (cTest (cOp fGt (cVar 6) (cDGet (cVar 4) (cVar 5)))) (sRet (cTup (aCons (cC (.str "units")) (aCons (cVar 5) (aNil))))) (sNil)))
  (sRet (cC .non)))))))))
def g_bars_grant : List D → (D → Prop) → Prop := fun ds Q => c_bars_grant (env0 N_bars_grant ds) (fun _ => Q .non) Q
theorem w_bars_grant {P : Program} {w : World} {K : PySem.W.Frag} {mg : Str → Option Value} {base : Heap} {f : Addr} {fd : FuncData} (B : Bl mg) (h_job_of : Fn P w K mg base 1 2 "job_of" g_job_of) (h_has_ended : Fn P w K mg base 3 2 "has_ended" g_has_ended) (h_free_units : Fn P w K mg base 2 1 "free_units" g_free_units) (h_hindering_needs : Fn P w K mg base 4 2 "hindering_needs" g_hindering_needs) (F : FunD K "bars_grant" "bars_grant" (defArgs s_bars_grant) (defBody s_bars_grant) (defScope s_bars_grant) [] [] f fd) (hm : mg "bars_grant" = some (.ref f)) : Fn P w K mg base 5 2 "bars_grant" g_bars_grant := by
  refine ⟨f, fd, _, fn_d F sc_bars_grant rfl (fun cdv A outer s H E hr => ?_) (fun _ _ _ h => h), hm, F.kp, F.bindsN fun _ _ _ _ _ _ us hl => match us, hl with | [_, _], _ => rfl⟩
  have nd := sc_bars_grant.nd
  have hu1 := room_u1 hr
  have hu64 := room_u64 hr
  exact ds_cons (ds_set nd (de_callN h_job_of (hr.mono (by decide)) rfl (dl_cons (de_dget hu1 (dv 0) (de_str)) (dl_cons (dv 1) (dl_nil)))))
    (ds_cons (ds_if (dt_is (dv 2) (de_non)) (ds_one (ds_ret (de_tup (dl_cons (de_str) (dl_nil))))) (ds_nil))
    (ds_cons (ds_if (dt_tru (de_callN h_has_ended (hr.mono (by decide)) rfl (dl_cons (dv 0) (dl_cons (dv 1) (dl_nil))))) (ds_one (ds_ret (de_tup (dl_cons (de_str) (dl_nil))))) (ds_nil))
    (ds_cons (ds_if (dt_din hu1 (dv 1) (de_dget hu1 (dv 0) (de_str))) (ds_one (ds_ret (de_tup (dl_cons (de_str) (dl_nil))))) (ds_nil))
    (ds_cons (ds_if (dt_gt (de_ix (dv 2) (de_int)) (de_dget hu1 (dv 0) (de_str))) (ds_one (ds_ret (de_tup (dl_cons (de_str) (dl_cons (de_ix (dv 2) (de_int)) (dl_nil)))))) (ds_nil))
    (ds_cons (ds_par2 (ps_par rfl nd rfl rfl (by decide) rfl rfl (dl_cons (de_callN h_hindering_needs (hr.mono (by decide)) rfl (dl_cons (dv 0) (dl_cons (dv 2) (dl_nil)))) (dl_cons (de_of (df_dict rfl rfl B.dict_ (dl_cons (de_callN h_free_units (hr.mono (by decide)) rfl (dl_cons (dv 0) (dl_nil))) (dl_nil)))) (dl_nil))) rfl) (fun _ _ _ h => h))
    (ds_cons (ds_if (dt_tru (dv 3)) (ds_one (ds_ret (de_tup (dl_cons (de_str) (dl_cons (de_ix (dv 3) (de_int)) (dl_nil)))))) (ds_nil))
    (ds_cons (ds_for (is := [5, 6]) rfl (di_tup (de_ix (dv 2) (de_int))) (dg_tup (is := [5, 6]) rfl (pgs_cons (pg_name nd rfl (by first | exact .inl rfl | exact .inr rfl)) (pgs_cons (pg_name nd rfl (by first | exact .inl rfl | exact .inr rfl)) (pgs_nil)))) (ds_one (ds_if (dt_gt (dv 6) (de_dget hu1 (dv 4) (dv 5))) (ds_one (ds_ret (de_tup (dl_cons (de_str) (dl_cons (dv 5) (dl_nil)))))) (ds_nil))))
    (ds_one (ds_ret (de_non))))))))))

/-! bar need -/
abbrev s_bar_need : Stmt := top 15
abbrev N_bar_need : List Str := ["store", "job", "told", "needs"]
theorem sc_bar_need : FnScope N_bar_need ["store", "job"] (defScope s_bar_need) := C8.fnScope_by (by decide +kernel)
def c_bar_need : CS := sSeq (sSet 2 (cCall 2 g_job_of (aCons (cDGet (cVar 0) (cC (.str "book"))) (aCons (cVar 1) (aNil)))))
  (sSeq (sIf (cOr (cTest (cOp fNe (cOp fIx (cVar 2) (cC (.int 1))) (cC (.str "all")))) (cTru (cCall 2 g_has_ended (aCons (cVar 0) (aCons (cVar 1) (aNil)))))) (sRet (cC .non)) (sNil))
  (sSeq (sSet 3 (cCall 2 g_hindering_needs (aCons (cVar 0) (aCons (cVar 2) (aNil)))))
  (sRet (cIf (cAnd (cTru (cVar 3)) (cTru (cCall 2 g_has_ended (aCons (cVar 0) (aCons (cOp fIx (cVar 3) (cC (.int 0))) (aNil)))))) (cOp fIx (cVar 3) (cC (.int 0))) (cC .non)))))
def g_bar_need : List D → (D → Prop) → Prop := fun ds Q => c_bar_need (env0 N_bar_need ds) (fun _ => Q .non) Q
theorem w_bar_need {P : Program} {w : World} {K : PySem.W.Frag} {mg : Str → Option Value} {base : Heap} {f : Addr} {fd : FuncData} (B : Bl mg) (h_job_of : Fn P w K mg base 1 2 "job_of" g_job_of) (h_has_ended : Fn P w K mg base 3 2 "has_ended" g_has_ended) (h_hindering_needs : Fn P w K mg base 4 2 "hindering_needs" g_hindering_needs) (F : FunD K "bar_need" "bar_need" (defArgs s_bar_need) (defBody s_bar_need) (defScope s_bar_need) [] [] f fd) (hm : mg "bar_need" = some (.ref f)) : Fn P w K mg base 5 2 "bar_need" g_bar_need := by
  refine ⟨f, fd, _, fn_d F sc_bar_need rfl (fun cdv A outer s H E hr => ?_) (fun _ _ _ h => h), hm, F.kp, F.bindsN fun _ _ _ _ _ _ us hl => match us, hl with | [_, _], _ => rfl⟩
  have nd := sc_bar_need.nd
  have hu1 := room_u1 hr
  have hu64 := room_u64 hr
  exact ds_cons (ds_set nd (de_callN h_job_of (hr.mono (by decide)) rfl (dl_cons (de_dget hu1 (dv 0) (de_str)) (dl_cons (dv 1) (dl_nil)))))
    (ds_cons (ds_if (dt_w (dw_or (dt_ne hu64 (de_ix (dv 2) (de_int)) (de_str)) (dw_or1 (dt_tru (de_callN h_has_ended (hr.mono (by decide)) rfl (dl_cons (dv 0) (dl_cons (dv 1) (dl_nil)))))))) (ds_one (ds_ret (de_non))) (ds_nil))
    (ds_cons (ds_set nd (de_callN h_hindering_needs (hr.mono (by decide)) rfl (dl_cons (dv 0) (dl_cons (dv 2) (dl_nil)))))
    (ds_one (ds_ret (de_if (dt_w (dw_and (dt_tru (dv 3)) (dw_and1 (dt_tru (de_callN h_has_ended (hr.mono (by decide)) rfl (dl_cons (dv 0) (dl_cons (de_ix (dv 3) (de_int)) (dl_nil)))))))) (de_ix (dv 3) (de_int)) (de_non))))))
end E64
namespace E64
open PySem PySem.Spec PyProof.Rows L2
/-! store copied -/
abbrev s_store_copied : Stmt := top 16
abbrev N_store_copied : List Str := ["store"]
theorem sc_store_copied : FnScope N_store_copied ["store"] (defScope s_store_copied) := C8.fnScope_by (by decide +kernel)
def c_store_copied : CS := sRet (cDisp1 (cVar 0) [(cC (.str "holds"), cCB fDict (aCons (cDGet (cVar 0) (cC (.str "holds"))) (aNil))), (cC (.str "ends"), cCB fDict (aCons (cDGet (cVar 0) (cC (.str "ends"))) (aNil))), (cC (.str "barred"), cCB fDict (aCons (cDGet (cVar 0) (cC (.str "barred"))) (aNil)))])
def g_store_copied : List D → (D → Prop) → Prop := fun ds Q => c_store_copied (env0 N_store_copied ds) (fun _ => Q .non) Q
theorem w_store_copied {P : Program} {w : World} {K : PySem.W.Frag} {mg : Str → Option Value} {base : Heap} {f : Addr} {fd : FuncData} (B : Bl mg) (F : FunD K "store_copied" "store_copied" (defArgs s_store_copied) (defBody s_store_copied) (defScope s_store_copied) [] [] f fd) (hm : mg "store_copied" = some (.ref f)) : Fn P w K mg base 1 1 "store_copied" g_store_copied := by
  refine ⟨f, fd, _, fn_d F sc_store_copied rfl (fun cdv A outer s H E hr => ?_) (fun _ _ _ h => h), hm, F.kp, F.bindsN fun _ _ _ _ _ _ us hl => match us, hl with | [_], _ => rfl⟩
  have nd := sc_store_copied.nd
  have hu1 := room_u1 hr
  have hu64 := room_u64 hr
  exact ds_one (ds_ret (de_of (df_disp1 (dv 0) (dps2_cons (de_str) (de_of (df_dict rfl rfl B.dict_ (dl_cons (de_dget hu1 (dv 0) (de_str)) (dl_nil)))) (dps2_cons (de_str) (de_of (df_dict rfl rfl B.dict_ (dl_cons (de_dget hu1 (dv 0) (de_str)) (dl_nil)))) (dps2_cons (de_str) (de_of (df_dict rfl rfl B.dict_ (dl_cons (de_dget hu1 (dv 0) (de_str)) (dl_nil)))) (dps2_nil)))))))

/-! ticked -/
abbrev s_ticked : Stmt := top 17
abbrev N_ticked : List Str := ["store"]
theorem sc_ticked : FnScope N_ticked ["store"] (defScope s_ticked) := C8.fnScope_by (by decide +kernel)
def c_ticked : CS := sRet (cDisp1 (cCall 1 g_store_copied (aCons (cVar 0) (aNil))) [(cC (.str "time"), cOp fAdd (cDGet (cVar 0) (cC (.str "time"))) (cC (.int 1)))])
def g_ticked : List D → (D → Prop) → Prop := fun ds Q => c_ticked (env0 N_ticked ds) (fun _ => Q .non) Q
theorem w_ticked {P : Program} {w : World} {K : PySem.W.Frag} {mg : Str → Option Value} {base : Heap} {f : Addr} {fd : FuncData} (B : Bl mg) (h_store_copied : Fn P w K mg base 1 1 "store_copied" g_store_copied) (F : FunD K "ticked" "ticked" (defArgs s_ticked) (defBody s_ticked) (defScope s_ticked) [] [] f fd) (hm : mg "ticked" = some (.ref f)) : Fn P w K mg base 2 1 "ticked" g_ticked := by
  refine ⟨f, fd, _, fn_d F sc_ticked rfl (fun cdv A outer s H E hr => ?_) (fun _ _ _ h => h), hm, F.kp, F.bindsN fun _ _ _ _ _ _ us hl => match us, hl with | [_], _ => rfl⟩
  have nd := sc_ticked.nd
  have hu1 := room_u1 hr
  have hu64 := room_u64 hr
  exact ds_one (ds_ret (de_of (df_disp1 (de_callN h_store_copied (hr.mono (by decide)) rfl (dl_cons (dv 0) (dl_nil))) (dps2_cons (de_str) (de_add (de_dget hu1 (dv 0) (de_str)) (de_int)) (dps2_nil)))))

/-! told of store -/
abbrev s_told_of_store : Stmt := top 18
abbrev N_told_of_store : List Str := ["store", "held", "ended", "barred"]
theorem sc_told_of_store : FnScope N_told_of_store ["store"] (defScope s_told_of_store) := C8.fnScope_by (by decide +kernel)
def c_told_of_store : CS := sSeq (sPar [1, 2] (aCons (cCB fTuple (aCons (cCB fSorted (aCons (cItems (cDGet (cVar 0) (cC (.str "holds")))) (aNil))) (aNil))) (aCons (cCB fTuple (aCons (cCB fSorted (aCons (cItems (cDGet (cVar 0) (cC (.str "ends")))) (aNil))) (aNil))) (aNil))))
  (sSeq (sSet 3 (cCB fTuple (aCons (cCB fSorted (aCons (cItems (cDGet (cVar 0) (cC (.str "barred")))) (aNil))) (aNil))))
  (sRet (cTup (aCons (cC (.str "told")) (aCons (cDGet (cVar 0) (cC (.str "epoch"))) (aCons (cDGet (cVar 0) (cC (.str "moment"))) (aCons (cDGet (cVar 0) (cC (.str "time"))) (aCons (cDGet (cVar 0) (cC (.str "fence"))) (aCons (cVar 1) (aCons (cVar 2) (aCons (cVar 3) (aNil))))))))))))
def g_told_of_store : List D → (D → Prop) → Prop := fun ds Q => c_told_of_store (env0 N_told_of_store ds) (fun _ => Q .non) Q
theorem w_told_of_store {P : Program} {w : World} {K : PySem.W.Frag} {mg : Str → Option Value} {base : Heap} {f : Addr} {fd : FuncData} (B : Bl mg) (F : FunD K "told_of_store" "told_of_store" (defArgs s_told_of_store) (defBody s_told_of_store) (defScope s_told_of_store) [] [] f fd) (hm : mg "told_of_store" = some (.ref f)) : Fn P w K mg base 1 1 "told_of_store" g_told_of_store := by
  refine ⟨f, fd, _, fn_d F sc_told_of_store rfl (fun cdv A outer s H E hr => ?_) (fun _ _ _ h => h), hm, F.kp, F.bindsN fun _ _ _ _ _ _ us hl => match us, hl with | [_], _ => rfl⟩
  have nd := sc_told_of_store.nd
  have hu1 := room_u1 hr
  have hu64 := room_u64 hr
  exact ds_cons (ds_par2 (ps_par rfl nd rfl rfl (by decide) rfl rfl (dl_cons (de_tuple rfl B.tuple_ (dl_cons (de_sorted rfl B.sorted_ (dl_cons (de_items rfl (de_dget hu1 (dv 0) (de_str)) rfl B.list_) (dl_nil))) (dl_nil))) (dl_cons (de_tuple rfl B.tuple_ (dl_cons (de_sorted rfl B.sorted_ (dl_cons (de_items rfl (de_dget hu1 (dv 0) (de_str)) rfl B.list_) (dl_nil))) (dl_nil))) (dl_nil))) rfl) (fun _ _ _ h => h))
    (ds_cons (ds_set nd (de_tuple rfl B.tuple_ (dl_cons (de_sorted rfl B.sorted_ (dl_cons (de_items rfl (de_dget hu1 (dv 0) (de_str)) rfl B.list_) (dl_nil))) (dl_nil))))
    (ds_one (ds_ret (de_tup (dl_cons (de_str) (dl_cons (de_dget hu1 (dv 0) (de_str)) (dl_cons (de_dget hu1 (dv 0) (de_str)) (dl_cons (de_dget hu1 (dv 0) (de_str)) (dl_cons (de_dget hu1 (dv 0) (de_str)) (dl_cons (dv 1) (dl_cons (dv 2) (dl_cons (dv 3) (dl_nil)))))))))))))

/-! without hold -/
abbrev s_without_hold : Stmt := top 19
abbrev N_without_hold : List Str := ["holds", "job", "name", "hold"]
theorem sc_without_hold : FnScope N_without_hold ["holds", "job"] (defScope s_without_hold) := C8.fnScope_by (by decide +kernel)
def c_without_hold : CS := sRet (cDComp (cPv 0) [2, 3] (gT [2, 3]) (cTest (cOp fNe (cVar 2) (cVar 1))) (cVar 2) (cVar 3))
def g_without_hold : List D → (D → Prop) → Prop := fun ds Q => c_without_hold (env0 N_without_hold ds) (fun _ => Q .non) Q
theorem w_without_hold {P : Program} {w : World} {K : PySem.W.Frag} {mg : Str → Option Value} {base : Heap} {f : Addr} {fd : FuncData} (B : Bl mg) (F : FunD K "without_hold" "without_hold" (defArgs s_without_hold) (defBody s_without_hold) (defScope s_without_hold) [] [] f fd) (hm : mg "without_hold" = some (.ref f)) : Fn P w K mg base 1 2 "without_hold" g_without_hold := by
  refine ⟨f, fd, _, fn_d F sc_without_hold rfl (fun cdv A outer s H E hr => ?_) (fun _ _ _ h => h), hm, F.kp, F.bindsN fun _ _ _ _ _ _ us hl => match us, hl with | [_, _], _ => rfl⟩
  have nd := sc_without_hold.nd
  have hu1 := room_u1 hr
  have hu64 := room_u64 hr
  exact ds_one (ds_ret (de_of (df_dcomp (own := [("name", 2), ("hold", 3)]) (is := [2, 3]) rfl nd (pv 0) path_v (blkOk_by (by kernel_rfl)) (fun _ _ _ _ _ => dg_tup (is := [2, 3]) rfl (pgs_cons (pg_name nd rfl (by first | exact .inl rfl | exact .inr rfl)) (pgs_cons (pg_name nd rfl (by first | exact .inl rfl | exact .inr rfl)) (pgs_nil)))) (fun _ _ _ _ _ => dts_one (dt_ne hu64 (dv 2) (dv 1))) (fun _ _ _ _ _ => dv 2) (fun _ _ _ _ _ => dv 3))))

/-! store written -/
abbrev s_store_written : Stmt := top 20
abbrev N_store_written : List Str := ["store", "changes"]
theorem sc_store_written : FnScope N_store_written ["store", "changes"] (defScope s_store_written) := C8.fnScope_by (by decide +kernel)
def c_store_written : CS := sRet (cDisp2 (cVar 0) (cVar 1) [(cC (.str "moment"), cOp fAdd (cDGet (cVar 0) (cC (.str "moment"))) (cC (.int 1)))])
def g_store_written : List D → (D → Prop) → Prop := fun ds Q => c_store_written (env0 N_store_written ds) (fun _ => Q .non) Q
theorem w_store_written {P : Program} {w : World} {K : PySem.W.Frag} {mg : Str → Option Value} {base : Heap} {f : Addr} {fd : FuncData} (B : Bl mg) (F : FunD K "store_written" "store_written" (defArgs s_store_written) (defBody s_store_written) (defScope s_store_written) [] [] f fd) (hm : mg "store_written" = some (.ref f)) : Fn P w K mg base 1 2 "store_written" g_store_written := by
  refine ⟨f, fd, _, fn_d F sc_store_written rfl (fun cdv A outer s H E hr => ?_) (fun _ _ _ h => h), hm, F.kp, F.bindsN fun _ _ _ _ _ _ us hl => match us, hl with | [_, _], _ => rfl⟩
  have nd := sc_store_written.nd
  have hu1 := room_u1 hr
  have hu64 := room_u64 hr
  exact ds_one (ds_ret (de_of (df_disp2 (dv 0) (dv 1) (dps2_cons (de_str) (de_add (de_dget hu1 (dv 0) (de_str)) (de_int)) (dps2_nil)))))

/-! hear take -/
abbrev s_hear_take : Stmt := top 21
abbrev N_hear_take : List Str := ["store", "letter", "epoch"]
theorem sc_hear_take : FnScope N_hear_take ["store", "letter"] (defScope s_hear_take) := C8.fnScope_by (by decide +kernel)
def c_hear_take : CS := sSeq (sSet 2 (cOp fIx (cVar 1) (cC (.int 1))))
  (sSeq (sIf (cTest (cOp fLt (cVar 2) (cDGet (cVar 0) (cC (.str "epoch"))))) (sRet (cTup (aCons (cVar 0) (aCons (cTup (aCons (cC (.str "no")) (aCons (cDGet (cVar 0) (cC (.str "epoch"))) (aCons (cVar 1) (aNil))))) (aNil))))) (sNil))
  (sSeq (sIf (cTest (cOp fGt (cVar 2) (cDGet (cVar 0) (cC (.str "epoch"))))) (sSet 0 (cCall 2 g_store_written (aCons (cVar 0) (aCons (cDisp [("epoch", cVar 2)]) (aNil))))) (sNil))
  (sRet (cTup (aCons (cVar 0) (aCons (cTup (aCons (cC (.str "taken")) (aCons (cVar 2) (aNil)))) (aNil)))))))
def g_hear_take : List D → (D → Prop) → Prop := fun ds Q => c_hear_take (env0 N_hear_take ds) (fun _ => Q .non) Q
theorem w_hear_take {P : Program} {w : World} {K : PySem.W.Frag} {mg : Str → Option Value} {base : Heap} {f : Addr} {fd : FuncData} (B : Bl mg) (h_store_written : Fn P w K mg base 1 2 "store_written" g_store_written) (F : FunD K "hear_take" "hear_take" (defArgs s_hear_take) (defBody s_hear_take) (defScope s_hear_take) [] [] f fd) (hm : mg "hear_take" = some (.ref f)) : Fn P w K mg base 2 2 "hear_take" g_hear_take := by
  refine ⟨f, fd, _, fn_d F sc_hear_take rfl (fun cdv A outer s H E hr => ?_) (fun _ _ _ h => h), hm, F.kp, F.bindsN fun _ _ _ _ _ _ us hl => match us, hl with | [_, _], _ => rfl⟩
  have nd := sc_hear_take.nd
  have hu1 := room_u1 hr
  have hu64 := room_u64 hr
  exact ds_cons (ds_set nd (de_ix (dv 1) (de_int)))
    (ds_cons (ds_if (dt_lt (dv 2) (de_dget hu1 (dv 0) (de_str))) (ds_one (ds_ret (de_tup (dl_cons (dv 0) (dl_cons (de_tup (dl_cons (de_str) (dl_cons (de_dget hu1 (dv 0) (de_str)) (dl_cons (dv 1) (dl_nil))))) (dl_nil)))))) (ds_nil))
    (ds_cons (ds_if (dt_gt (dv 2) (de_dget hu1 (dv 0) (de_str))) (ds_one (ds_set nd (de_callN h_store_written (hr.mono (by decide)) rfl (dl_cons (dv 0) (dl_cons (de_of (df_disp (dps_cons (dv 2) (dps_nil)))) (dl_nil)))))) (ds_nil))
    (ds_one (ds_ret (de_tup (dl_cons (dv 0) (dl_cons (de_tup (dl_cons (de_str) (dl_cons (dv 2) (dl_nil)))) (dl_nil))))))))

/-! hear free -/
abbrev s_hear_free : Stmt := top 23
abbrev N_hear_free : List Str := ["store", "letter", "epoch", "job", "fence", "hold", "gone", "freed"]
theorem sc_hear_free : FnScope N_hear_free ["store", "letter"] (defScope s_hear_free) := C8.fnScope_by (by decide +kernel)
def c_hear_free : CS := sSeq (sAsg (cSl (cVar 1) (oSome (cC (.int 1))) (oNone)) (gT [2, 3, 4]))
  (sSeq (sSet 5 (cGet1 (cDGet (cVar 0) (cC (.str "holds"))) (cVar 3)))
  (sSeq (sIf (cAnd (cTest (cOp fIsNot (cVar 5) (cC .non))) (cTest (cOp fEq (cOp fIx (cVar 5) (cC (.int 0))) (cVar 4)))) (sSeq (sSet 6 (cTup (aCons (cVar 4) (aCons (cVar 3) (aCons (cOp fIx (cVar 5) (cC (.int 1))) (aCons (cOp fIx (cVar 5) (cC (.int 2))) (aCons (cOp fIx (cVar 5) (cC (.int 3))) (aCons (cOp fIx (cVar 5) (cC (.int 4))) (aCons (cOp fAdd (cDGet (cVar 0) (cC (.str "moment"))) (cC (.int 1))) (aNil))))))))))
  (sSeq (sSet 7 (cCB fTuple (aCons (cCB fSorted (aCons (cLst (aStar (cDGet (cVar 0) (cC (.str "freed"))) (aCons (cVar 6) (aNil)))) (aNil))) (aNil))))
  (sSet 0 (cCall 2 g_store_written (aCons (cVar 0) (aCons (cDisp [("holds", cCall 2 g_without_hold (aCons (cDGet (cVar 0) (cC (.str "holds"))) (aCons (cVar 3) (aNil)))), ("freed", cVar 7)]) (aNil))))))) (sIf (cTest (cOp fGt (cVar 4) (cDGet (cVar 0) (cC (.str "fence"))))) (sRet (cTup (aCons (cVar 0) (aCons (cTup (aCons (cC (.str "no")) (aCons (cDGet (cVar 0) (cC (.str "epoch"))) (aCons (cVar 1) (aNil))))) (aNil))))) (sNil)))
  (sRet (cTup (aCons (cVar 0) (aCons (cTup (aCons (cC (.str "freed")) (aCons (cVar 2) (aCons (cVar 3) (aCons (cVar 4) (aNil)))))) (aNil)))))))
def g_hear_free : List D → (D → Prop) → Prop := fun ds Q => c_hear_free (env0 N_hear_free ds) (fun _ => Q .non) Q
theorem w_hear_free {P : Program} {w : World} {K : PySem.W.Frag} {mg : Str → Option Value} {base : Heap} {f : Addr} {fd : FuncData} (B : Bl mg) (h_store_written : Fn P w K mg base 1 2 "store_written" g_store_written) (h_without_hold : Fn P w K mg base 1 2 "without_hold" g_without_hold) (F : FunD K "hear_free" "hear_free" (defArgs s_hear_free) (defBody s_hear_free) (defScope s_hear_free) [] [] f fd) (hm : mg "hear_free" = some (.ref f)) : Fn P w K mg base 2 2 "hear_free" g_hear_free := by
  refine ⟨f, fd, _, fn_d F sc_hear_free rfl (fun cdv A outer s H E hr => ?_) (fun _ _ _ h => h), hm, F.kp, F.bindsN fun _ _ _ _ _ _ us hl => match us, hl with | [_, _], _ => rfl⟩
  have nd := sc_hear_free.nd
  have hu1 := room_u1 hr
  have hu64 := room_u64 hr
  exact ds_cons (ds_asg (de_sl (dv 1) (do_some (de_int)) (do_none)) (dg_tup (is := [2, 3, 4]) rfl (pgs_cons (pg_name nd rfl (by first | exact .inl rfl | exact .inr rfl)) (pgs_cons (pg_name nd rfl (by first | exact .inl rfl | exact .inr rfl)) (pgs_cons (pg_name nd rfl (by first | exact .inl rfl | exact .inr rfl)) (pgs_nil))))))
    (ds_cons (ds_set nd (de_get1 hu1 (de_dget hu1 (dv 0) (de_str)) (dv 3)))
    (ds_cons (ds_if (dt_w (dw_and (dt_isnot (dv 5) (de_non)) (dw_and1 (dt_eq hu64 (de_ix (dv 5) (de_int)) (dv 4))))) (ds_cons (ds_set nd (de_tup (dl_cons (dv 4) (dl_cons (dv 3) (dl_cons (de_ix (dv 5) (de_int)) (dl_cons (de_ix (dv 5) (de_int)) (dl_cons (de_ix (dv 5) (de_int)) (dl_cons (de_ix (dv 5) (de_int)) (dl_cons (de_add (de_dget hu1 (dv 0) (de_str)) (de_int)) (dl_nil))))))))))
    (ds_cons (ds_set nd (de_tuple rfl B.tuple_ (dl_cons (de_sorted rfl B.sorted_ (dl_cons (de_of (df_lst (dl_star (de_dget hu1 (dv 0) (de_str)) (dl_cons (dv 6) (dl_nil))))) (dl_nil))) (dl_nil))))
    (ds_one (ds_set nd (de_callN h_store_written (hr.mono (by decide)) rfl (dl_cons (dv 0) (dl_cons (de_of (df_disp (dps_cons (de_callN h_without_hold (hr.mono (by decide)) rfl (dl_cons (de_dget hu1 (dv 0) (de_str)) (dl_cons (dv 3) (dl_nil)))) (dps_cons (dv 7) (dps_nil))))) (dl_nil)))))))) (ds_one (ds_if (dt_gt (dv 4) (de_dget hu1 (dv 0) (de_str))) (ds_one (ds_ret (de_tup (dl_cons (dv 0) (dl_cons (de_tup (dl_cons (de_str) (dl_cons (de_dget hu1 (dv 0) (de_str)) (dl_cons (dv 1) (dl_nil))))) (dl_nil)))))) (ds_nil))))
    (ds_one (ds_ret (de_tup (dl_cons (dv 0) (dl_cons (de_tup (dl_cons (de_str) (dl_cons (dv 2) (dl_cons (dv 3) (dl_cons (dv 4) (dl_nil)))))) (dl_nil))))))))

/-! hear end -/
abbrev s_hear_end : Stmt := top 25
abbrev N_hear_end : List Str := ["store", "letter", "machine", "job", "fence", "attempt", "outcome", "hold", "value", "end", "ends"]
theorem sc_hear_end : FnScope N_hear_end ["store", "letter"] (defScope s_hear_end) := C8.fnScope_by (by decide +kernel)
def c_hear_end : CS := sSeq (sAsg (cSl (cVar 1) (oSome (cC (.int 1))) (oNone)) (gT [2, 3, 4, 5, 6]))
  (sSeq (sSet 7 (cGet1 (cDGet (cVar 0) (cC (.str "holds"))) (cVar 3)))
  (sSeq (sIf (cAnd (cTest (cOp fIsNot (cVar 7) (cC .non))) (cTest (cOp fEq (cSl (cVar 7) (oNone) (oSome (cC (.int 3)))) (cTup (aCons (cVar 4) (aCons (cVar 2) (aCons (cVar 5) (aNil)))))))) (sSeq (sSet 8 (cIf (cTest (cOp fEq (cOp fIx (cVar 6) (cC (.int 0))) (cC (.str "done")))) (cOp fIx (cVar 6) (cC (.int 1))) (cC .non)))
  (sSeq (sSet 9 (cTup (aCons (cOp fIx (cVar 6) (cC (.int 0))) (aCons (cVar 4) (aCons (cOp fIx (cVar 7) (cC (.int 3))) (aCons (cOp fIx (cVar 7) (cC (.int 4))) (aCons (cOp fAdd (cDGet (cVar 0) (cC (.str "moment"))) (cC (.int 1))) (aCons (cVar 8) (aNil)))))))))
  (sSeq (sSet 10 (cDisp1 (cDGet (cVar 0) (cC (.str "ends"))) [(cVar 3, cTup (aStar (cCall 2 g_ends_in (aCons (cVar 0) (aCons (cVar 3) (aNil)))) (aCons (cVar 9) (aNil))))]))
  (sSeq (sSet 0 (cCall 2 g_store_written (aCons (cVar 0) (aCons (cDisp [("holds", cCall 2 g_without_hold (aCons (cDGet (cVar 0) (cC (.str "holds"))) (aCons (cVar 3) (aNil)))), ("ends", cVar 10)]) (aNil)))))
  (sRet (cTup (aCons (cVar 0) (aCons (cTup (aCons (cC (.str "ended")) (aCons (cVar 2) (aCons (cVar 3) (aCons (cVar 4) (aNil)))))) (aNil))))))))) (sNil))
  (sSeq (sIf (cTest (cOp fIn (cVar 4) (cComp (wTup (cCall 2 g_ends_in (aCons (cVar 0) (aCons (cVar 3) (aNil))))) [9] (gN 9) (bYes) (cOp fIx (cVar 9) (cC (.int 1)))))) (sRet (cTup (aCons (cVar 0) (aCons (cTup (aCons (cC (.str "ended")) (aCons (cVar 2) (aCons (cVar 3) (aCons (cVar 4) (aNil)))))) (aNil))))) (sNil))
  (sRet (cTup (aCons (cVar 0) (aCons (cTup (aCons (cC (.str "refused")) (aCons (cVar 2) (aCons (cVar 3) (aCons (cVar 4) (aNil)))))) (aNil))))))))
def g_hear_end : List D → (D → Prop) → Prop := fun ds Q => c_hear_end (env0 N_hear_end ds) (fun _ => Q .non) Q
theorem w_hear_end {P : Program} {w : World} {K : PySem.W.Frag} {mg : Str → Option Value} {base : Heap} {f : Addr} {fd : FuncData} (B : Bl mg) (h_ends_in : Fn P w K mg base 1 2 "ends_in" g_ends_in) (h_store_written : Fn P w K mg base 1 2 "store_written" g_store_written) (h_without_hold : Fn P w K mg base 1 2 "without_hold" g_without_hold) (F : FunD K "hear_end" "hear_end" (defArgs s_hear_end) (defBody s_hear_end) (defScope s_hear_end) [] [] f fd) (hm : mg "hear_end" = some (.ref f)) : Fn P w K mg base 2 2 "hear_end" g_hear_end := by
  refine ⟨f, fd, _, fn_d F sc_hear_end rfl (fun cdv A outer s H E hr => ?_) (fun _ _ _ h => h), hm, F.kp, F.bindsN fun _ _ _ _ _ _ us hl => match us, hl with | [_, _], _ => rfl⟩
  have nd := sc_hear_end.nd
  have hu1 := room_u1 hr
  have hu64 := room_u64 hr
  exact ds_cons (ds_asg (de_sl (dv 1) (do_some (de_int)) (do_none)) (dg_tup (is := [2, 3, 4, 5, 6]) rfl (pgs_cons (pg_name nd rfl (by first | exact .inl rfl | exact .inr rfl)) (pgs_cons (pg_name nd rfl (by first | exact .inl rfl | exact .inr rfl)) (pgs_cons (pg_name nd rfl (by first | exact .inl rfl | exact .inr rfl)) (pgs_cons (pg_name nd rfl (by first | exact .inl rfl | exact .inr rfl)) (pgs_cons (pg_name nd rfl (by first | exact .inl rfl | exact .inr rfl)) (pgs_nil))))))))
    (ds_cons (ds_set nd (de_get1 hu1 (de_dget hu1 (dv 0) (de_str)) (dv 3)))
    (ds_cons (ds_if (dt_w (dw_and (dt_isnot (dv 7) (de_non)) (dw_and1 (dt_eq hu64 (de_sl (dv 7) (do_none) (do_some (de_int))) (de_tup (dl_cons (dv 4) (dl_cons (dv 2) (dl_cons (dv 5) (dl_nil))))))))) (ds_cons (ds_set nd (de_if (dt_eq hu64 (de_ix (dv 6) (de_int)) (de_str)) (de_ix (dv 6) (de_int)) (de_non)))
    (ds_cons (ds_set nd (de_tup (dl_cons (de_ix (dv 6) (de_int)) (dl_cons (dv 4) (dl_cons (de_ix (dv 7) (de_int)) (dl_cons (de_ix (dv 7) (de_int)) (dl_cons (de_add (de_dget hu1 (dv 0) (de_str)) (de_int)) (dl_cons (dv 8) (dl_nil)))))))))
    (ds_cons (ds_set nd (de_of (df_disp1 (de_dget hu1 (dv 0) (de_str)) (dps2_cons (dv 3) (de_tup (dl_star (de_callN h_ends_in (hr.mono (by decide)) rfl (dl_cons (dv 0) (dl_cons (dv 3) (dl_nil)))) (dl_cons (dv 9) (dl_nil)))) (dps2_nil)))))
    (ds_cons (ds_set nd (de_callN h_store_written (hr.mono (by decide)) rfl (dl_cons (dv 0) (dl_cons (de_of (df_disp (dps_cons (de_callN h_without_hold (hr.mono (by decide)) rfl (dl_cons (de_dget hu1 (dv 0) (de_str)) (dl_cons (dv 3) (dl_nil)))) (dps_cons (dv 10) (dps_nil))))) (dl_nil)))))
    (ds_one (ds_ret (de_tup (dl_cons (dv 0) (dl_cons (de_tup (dl_cons (de_str) (dl_cons (dv 2) (dl_cons (dv 3) (dl_cons (dv 4) (dl_nil)))))) (dl_nil)))))))))) (ds_nil))
    (ds_cons (ds_if (dt_in (dv 4) (de_of (df_comp (own := [("end", 9)]) (is := [9]) rfl nd (di_tup (de_callN h_ends_in (hr.mono (by decide)) rfl (dl_cons (dv 0) (dl_cons (dv 3) (dl_nil))))) (blkOk_by (by kernel_rfl)) (fun _ _ _ _ _ => dg_name (pg_name nd rfl (by first | exact .inl rfl | exact .inr rfl))) (fun _ _ _ _ _ => dts_nil) (fun _ _ _ _ _ => de_ix (dv 9) (de_int))))) (ds_one (ds_ret (de_tup (dl_cons (dv 0) (dl_cons (de_tup (dl_cons (de_str) (dl_cons (dv 2) (dl_cons (dv 3) (dl_cons (dv 4) (dl_nil)))))) (dl_nil)))))) (ds_nil))
    (ds_one (ds_ret (de_tup (dl_cons (dv 0) (dl_cons (de_tup (dl_cons (de_str) (dl_cons (dv 2) (dl_cons (dv 3) (dl_cons (dv 4) (dl_nil)))))) (dl_nil)))))))))

/-! hear ask -/
abbrev s_hear_ask : Stmt := top 26
abbrev N_hear_ask : List Str := ["store", "letter"]
theorem sc_hear_ask : FnScope N_hear_ask ["store", "letter"] (defScope s_hear_ask) := C8.fnScope_by (by decide +kernel)
def c_hear_ask : CS := sRet (cTup (aCons (cVar 0) (aCons (cCall 1 g_told_of_store (aCons (cVar 0) (aNil))) (aNil))))
def g_hear_ask : List D → (D → Prop) → Prop := fun ds Q => c_hear_ask (env0 N_hear_ask ds) (fun _ => Q .non) Q
theorem w_hear_ask {P : Program} {w : World} {K : PySem.W.Frag} {mg : Str → Option Value} {base : Heap} {f : Addr} {fd : FuncData} (B : Bl mg) (h_told_of_store : Fn P w K mg base 1 1 "told_of_store" g_told_of_store) (F : FunD K "hear_ask" "hear_ask" (defArgs s_hear_ask) (defBody s_hear_ask) (defScope s_hear_ask) [] [] f fd) (hm : mg "hear_ask" = some (.ref f)) : Fn P w K mg base 2 2 "hear_ask" g_hear_ask := by
  refine ⟨f, fd, _, fn_d F sc_hear_ask rfl (fun cdv A outer s H E hr => ?_) (fun _ _ _ h => h), hm, F.kp, F.bindsN fun _ _ _ _ _ _ us hl => match us, hl with | [_, _], _ => rfl⟩
  have nd := sc_hear_ask.nd
  have hu1 := room_u1 hr
  have hu64 := room_u64 hr
  exact ds_one (ds_ret (de_tup (dl_cons (dv 0) (dl_cons (de_callN h_told_of_store (hr.mono (by decide)) rfl (dl_cons (dv 0) (dl_nil))) (dl_nil)))))
end E64
namespace E64
open PySem PySem.Spec PyProof.Rows L2
/-! hear grant -/
abbrev s_hear_grant : Stmt := top 22
abbrev N_hear_grant : List Str := ["store", "letter", "epoch", "job", "fence", "machine", "hold"]
theorem sc_hear_grant : FnScope N_hear_grant ["store", "letter"] (defScope s_hear_grant) := C8.fnScope_by (by decide +kernel)
def c_hear_grant : CS := sSeq (sAsg (cSl (cVar 1) (oSome (cC (.int 1))) (oNone)) (gT [2, 3, 4, 5]))
  (sSeq (sSet 6 (cGet1 (cDGet (cVar 0) (cC (.str "holds"))) (cVar 3)))
  (sSeq (sIf (cOr (cTest (cOp fIs (cVar 6) (cC .non))) (cTest (cOp fNe (cSl (cVar 6) (oNone) (oSome (cC (.int 2)))) (cTup (aCons (cVar 4) (aCons (cVar 5) (aNil))))))) (sSeq (sIf (cOr (cTest (cOp fIsNot (cCall 2 g_bars_grant (aCons (cVar 0) (aCons (cVar 3) (aNil)))) (cC .non))) (cTest (cOp fLe (cVar 4) (cDGet (cVar 0) (cC (.str "fence")))))) (sRet (cTup (aCons (cVar 0) (aCons (cTup (aCons (cC (.str "no")) (aCons (cDGet (cVar 0) (cC (.str "epoch"))) (aCons (cVar 1) (aNil))))) (aNil))))) (sNil))
  (sSeq (sSet 6 (cTup (aCons (cVar 4) (aCons (cVar 5) (aCons (cCall 2 g_attempt_in (aCons (cVar 0) (aCons (cVar 3) (aNil)))) (aCons (cOp fAdd (cDGet (cVar 0) (cC (.str "moment"))) (cC (.int 1))) (aCons (cDGet (cVar 0) (cC (.str "time"))) (aNil))))))))
  (sSet 0 (cCall 2 g_store_written (aCons (cVar 0) (aCons (cDisp [("fence", cVar 4), ("holds", cDisp1 (cDGet (cVar 0) (cC (.str "holds"))) [(cVar 3, cVar 6)])]) (aNil))))))) (sNil))
  (sRet (cTup (aCons (cVar 0) (aCons (cTup (aCons (cC (.str "granted")) (aCons (cVar 2) (aCons (cVar 3) (aCons (cVar 4) (aCons (cVar 5) (aCons (cOp fIx (cVar 6) (cC (.int 2))) (aCons (cCall 2 g_results_in (aCons (cVar 0) (aCons (cVar 3) (aNil)))) (aNil))))))))) (aNil)))))))
def g_hear_grant : List D → (D → Prop) → Prop := fun ds Q => c_hear_grant (env0 N_hear_grant ds) (fun _ => Q .non) Q
theorem w_hear_grant {P : Program} {w : World} {K : PySem.W.Frag} {mg : Str → Option Value} {base : Heap} {f : Addr} {fd : FuncData} (B : Bl mg) (h_bars_grant : Fn P w K mg base 5 2 "bars_grant" g_bars_grant) (h_attempt_in : Fn P w K mg base 2 2 "attempt_in" g_attempt_in) (h_store_written : Fn P w K mg base 1 2 "store_written" g_store_written) (h_results_in : Fn P w K mg base 4 2 "results_in" g_results_in) (F : FunD K "hear_grant" "hear_grant" (defArgs s_hear_grant) (defBody s_hear_grant) (defScope s_hear_grant) [] [] f fd) (hm : mg "hear_grant" = some (.ref f)) : Fn P w K mg base 6 2 "hear_grant" g_hear_grant := by
  refine ⟨f, fd, _, fn_d F sc_hear_grant rfl (fun cdv A outer s H E hr => ?_) (fun _ _ _ h => h), hm, F.kp, F.bindsN fun _ _ _ _ _ _ us hl => match us, hl with | [_, _], _ => rfl⟩
  have nd := sc_hear_grant.nd
  have hu1 := room_u1 hr
  have hu64 := room_u64 hr
  exact ds_cons (ds_asg (de_sl (dv 1) (do_some (de_int)) (do_none)) (dg_tup (is := [2, 3, 4, 5]) rfl (pgs_cons (pg_name nd rfl (by first | exact .inl rfl | exact .inr rfl)) (pgs_cons (pg_name nd rfl (by first | exact .inl rfl | exact .inr rfl)) (pgs_cons (pg_name nd rfl (by first | exact .inl rfl | exact .inr rfl)) (pgs_cons (pg_name nd rfl (by first | exact .inl rfl | exact .inr rfl)) (pgs_nil)))))))
    (ds_cons (ds_set nd (de_get1 hu1 (de_dget hu1 (dv 0) (de_str)) (dv 3)))
    (ds_cons (ds_if (dt_w (dw_or (dt_is (dv 6) (de_non)) (dw_or1 (dt_ne hu64 (de_sl (dv 6) (do_none) (do_some (de_int))) (de_tup (dl_cons (dv 4) (dl_cons (dv 5) (dl_nil)))))))) (ds_cons (ds_if (dt_w (dw_or (dt_isnot (de_callN h_bars_grant (hr.mono (by decide)) rfl (dl_cons (dv 0) (dl_cons (dv 3) (dl_nil)))) (de_non)) (dw_or1 (dt_le (dv 4) (de_dget hu1 (dv 0) (de_str)))))) (ds_one (ds_ret (de_tup (dl_cons (dv 0) (dl_cons (de_tup (dl_cons (de_str) (dl_cons (de_dget hu1 (dv 0) (de_str)) (dl_cons (dv 1) (dl_nil))))) (dl_nil)))))) (ds_nil))
    (ds_cons (ds_set nd (de_tup (dl_cons (dv 4) (dl_cons (dv 5) (dl_cons (de_callN h_attempt_in (hr.mono (by decide)) rfl (dl_cons (dv 0) (dl_cons (dv 3) (dl_nil)))) (dl_cons (de_add (de_dget hu1 (dv 0) (de_str)) (de_int)) (dl_cons (de_dget hu1 (dv 0) (de_str)) (dl_nil))))))))
    (ds_one (ds_set nd (de_callN h_store_written (hr.mono (by decide)) rfl (dl_cons (dv 0) (dl_cons (de_of (df_disp (dps_cons (dv 4) (dps_cons (de_of (df_disp1 (de_dget hu1 (dv 0) (de_str)) (dps2_cons (dv 3) (dv 6) (dps2_nil)))) (dps_nil))))) (dl_nil)))))))) (ds_nil))
    (ds_one (ds_ret (de_tup (dl_cons (dv 0) (dl_cons (de_tup (dl_cons (de_str) (dl_cons (dv 2) (dl_cons (dv 3) (dl_cons (dv 4) (dl_cons (dv 5) (dl_cons (de_ix (dv 6) (de_int)) (dl_cons (de_callN h_results_in (hr.mono (by decide)) rfl (dl_cons (dv 0) (dl_cons (dv 3) (dl_nil)))) (dl_nil))))))))) (dl_nil))))))))

/-! hear bar -/
abbrev s_hear_bar : Stmt := top 24
abbrev N_hear_bar : List Str := ["store", "letter", "epoch", "job", "need"]
theorem sc_hear_bar : FnScope N_hear_bar ["store", "letter"] (defScope s_hear_bar) := C8.fnScope_by (by decide +kernel)
def c_hear_bar : CS := sSeq (sAsg (cSl (cVar 1) (oSome (cC (.int 1))) (oNone)) (gT [2, 3, 4]))
  (sSeq (sIf (cTest (cOp fNe (cGet1 (cDGet (cVar 0) (cC (.str "barred"))) (cVar 3)) (cVar 4))) (sSeq (sIf (cOr (cTest (cOp fIs (cCall 2 g_job_of (aCons (cDGet (cVar 0) (cC (.str "book"))) (aCons (cVar 3) (aNil)))) (cC .non))) (cOr (cTest (cOp fIs (cVar 4) (cC .non))) (cTest (cOp fNe (cCall 2 g_bar_need (aCons (cVar 0) (aCons (cVar 3) (aNil)))) (cVar 4))))) (sRet (cTup (aCons (cVar 0) (aCons (cTup (aCons (cC (.str "no")) (aCons (cDGet (cVar 0) (cC (.str "epoch"))) (aCons (cVar 1) (aNil))))) (aNil))))) (sNil))
  (sSet 0 (cCall 2 g_store_written (aCons (cVar 0) (aCons (cDisp [("barred", cDisp1 (cDGet (cVar 0) (cC (.str "barred"))) [(cVar 3, cVar 4)])]) (aNil)))))) (sNil))
  (sRet (cTup (aCons (cVar 0) (aCons (cTup (aCons (cC (.str "barred")) (aCons (cVar 2) (aCons (cVar 3) (aNil))))) (aNil))))))
def g_hear_bar : List D → (D → Prop) → Prop := fun ds Q => c_hear_bar (env0 N_hear_bar ds) (fun _ => Q .non) Q
theorem w_hear_bar {P : Program} {w : World} {K : PySem.W.Frag} {mg : Str → Option Value} {base : Heap} {f : Addr} {fd : FuncData} (B : Bl mg) (h_bar_need : Fn P w K mg base 5 2 "bar_need" g_bar_need) (h_job_of : Fn P w K mg base 1 2 "job_of" g_job_of) (h_store_written : Fn P w K mg base 1 2 "store_written" g_store_written) (F : FunD K "hear_bar" "hear_bar" (defArgs s_hear_bar) (defBody s_hear_bar) (defScope s_hear_bar) [] [] f fd) (hm : mg "hear_bar" = some (.ref f)) : Fn P w K mg base 6 2 "hear_bar" g_hear_bar := by
  refine ⟨f, fd, _, fn_d F sc_hear_bar rfl (fun cdv A outer s H E hr => ?_) (fun _ _ _ h => h), hm, F.kp, F.bindsN fun _ _ _ _ _ _ us hl => match us, hl with | [_, _], _ => rfl⟩
  have nd := sc_hear_bar.nd
  have hu1 := room_u1 hr
  have hu64 := room_u64 hr
  exact ds_cons (ds_asg (de_sl (dv 1) (do_some (de_int)) (do_none)) (dg_tup (is := [2, 3, 4]) rfl (pgs_cons (pg_name nd rfl (by first | exact .inl rfl | exact .inr rfl)) (pgs_cons (pg_name nd rfl (by first | exact .inl rfl | exact .inr rfl)) (pgs_cons (pg_name nd rfl (by first | exact .inl rfl | exact .inr rfl)) (pgs_nil))))))
    (ds_cons (ds_if (dt_ne hu64 (de_get1 hu1 (de_dget hu1 (dv 0) (de_str)) (dv 3)) (dv 4)) (ds_cons (ds_if (dt_w (dw_or (dt_is (de_callN h_job_of (hr.mono (by decide)) rfl (dl_cons (de_dget hu1 (dv 0) (de_str)) (dl_cons (dv 3) (dl_nil)))) (de_non)) (dw_or (dt_is (dv 4) (de_non)) (dw_or1 (dt_ne hu64 (de_callN h_bar_need (hr.mono (by decide)) rfl (dl_cons (dv 0) (dl_cons (dv 3) (dl_nil)))) (dv 4)))))) (ds_one (ds_ret (de_tup (dl_cons (dv 0) (dl_cons (de_tup (dl_cons (de_str) (dl_cons (de_dget hu1 (dv 0) (de_str)) (dl_cons (dv 1) (dl_nil))))) (dl_nil)))))) (ds_nil))
    (ds_one (ds_set nd (de_callN h_store_written (hr.mono (by decide)) rfl (dl_cons (dv 0) (dl_cons (de_of (df_disp (dps_cons (de_of (df_disp1 (de_dget hu1 (dv 0) (de_str)) (dps2_cons (dv 3) (dv 4) (dps2_nil)))) (dps_nil)))) (dl_nil))))))) (ds_nil))
    (ds_one (ds_ret (de_tup (dl_cons (dv 0) (dl_cons (de_tup (dl_cons (de_str) (dl_cons (dv 2) (dl_cons (dv 3) (dl_nil))))) (dl_nil)))))))

/-- what stands in the table -/
def gTab : Str → Option (List D → (D → Prop) → Prop) := fun z => if z = "grant" then some g_hear_grant else if z = "free" then some g_hear_free else if z = "bar" then some g_hear_bar else if z = "ask" then some g_hear_ask else none
/-! store hears -/
abbrev s_store_hears : Stmt := top 28
abbrev N_store_hears : List Str := ["store", "letter", "later", "answer"]
theorem sc_store_hears : FnScope N_store_hears ["store", "letter"] (defScope s_store_hears) := C8.fnScope_by (by decide +kernel)
def c_store_hears : CS := sSeq (sIf (cTest (cOp fIn (cOp fIx (cVar 1) (cC (.int 0))) (cTup (aCons (cC (.str "take")) (aCons (cC (.str "end")) (aNil)))))) (sAsg (cIf (cTest (cOp fEq (cOp fIx (cVar 1) (cC (.int 0))) (cC (.str "take")))) (cCall 2 g_hear_take (aCons (cVar 0) (aCons (cVar 1) (aNil)))) (cCall 2 g_hear_end (aCons (cVar 0) (aCons (cVar 1) (aNil))))) (gT [2, 3])) (sIf (cTest (cOp fNe (cOp fIx (cVar 1) (cC (.int 1))) (cDGet (cVar 0) (cC (.str "epoch"))))) (sPar [2, 3] (aCons (cVar 0) (aCons (cTup (aCons (cC (.str "no")) (aCons (cDGet (cVar 0) (cC (.str "epoch"))) (aCons (cVar 1) (aNil))))) (aNil)))) (sAsg (cTab 2 gTab (cOp fIx (cVar 1) (cC (.int 0))) (aCons (cVar 0) (aCons (cVar 1) (aNil)))) (gT [2, 3]))))
  (sRet (cTup (aCons (cCall 1 g_store_copied (aCons (cVar 2) (aNil))) (aCons (cTup (aCons (cVar 3) (aNil))) (aNil)))))
def g_store_hears : List D → (D → Prop) → Prop := fun ds Q => c_store_hears (env0 N_store_hears ds) (fun _ => Q .non) Q
theorem w_store_hears {P : Program} {w : World} {K : PySem.W.Frag} {mg : Str → Option Value} {base : Heap} {f : Addr} {fd : FuncData} (B : Bl mg) (h_hear_take : Fn P w K mg base 2 2 "hear_take" g_hear_take) (h_hear_end : Fn P w K mg base 2 2 "hear_end" g_hear_end) (h_store_copied : Fn P w K mg base 1 1 "store_copied" g_store_copied) {d : Addr} (Td : TabD P w K mg base 6 2 d gTab) (hT : mg "HEARD" = some (.ref d)) (F : FunD K "store_hears" "store_hears" (defArgs s_store_hears) (defBody s_store_hears) (defScope s_store_hears) [] [] f fd) (hm : mg "store_hears" = some (.ref f)) : Fn P w K mg base 7 2 "store_hears" g_store_hears := by
  refine ⟨f, fd, _, fn_d F sc_store_hears rfl (fun cdv A outer s H E hr => ?_) (fun _ _ _ h => h), hm, F.kp, F.bindsN fun _ _ _ _ _ _ us hl => match us, hl with | [_, _], _ => rfl⟩
  have nd := sc_store_hears.nd
  have hu1 := room_u1 hr
  have hu64 := room_u64 hr
  exact ds_cons (ds_if (dt_in (de_ix (dv 1) (de_int)) (de_tup (dl_cons (de_str) (dl_cons (de_str) (dl_nil))))) (ds_one (ds_asg (de_if (dt_eq hu64 (de_ix (dv 1) (de_int)) (de_str)) (de_callN h_hear_take (hr.mono (by decide)) rfl (dl_cons (dv 0) (dl_cons (dv 1) (dl_nil)))) (de_callN h_hear_end (hr.mono (by decide)) rfl (dl_cons (dv 0) (dl_cons (dv 1) (dl_nil))))) (dg_tup (is := [2, 3]) rfl (pgs_cons (pg_name nd rfl (by first | exact .inl rfl | exact .inr rfl)) (pgs_cons (pg_name nd rfl (by first | exact .inl rfl | exact .inr rfl)) (pgs_nil)))))) (ds_one (ds_if (dt_ne hu64 (de_ix (dv 1) (de_int)) (de_dget hu1 (dv 0) (de_str))) (ds_one (ds_par2 (ps_par rfl nd rfl rfl (by decide) rfl rfl (dl_cons (dv 0) (dl_cons (de_tup (dl_cons (de_str) (dl_cons (de_dget hu1 (dv 0) (de_str)) (dl_cons (dv 1) (dl_nil))))) (dl_nil))) rfl) (fun _ _ _ h => h))) (ds_one (ds_asg (de_tab Td hr rfl hT (de_ix (dv 1) (de_int)) (dl_cons (dv 0) (dl_cons (dv 1) (dl_nil)))) (dg_tup (is := [2, 3]) rfl (pgs_cons (pg_name nd rfl (by first | exact .inl rfl | exact .inr rfl)) (pgs_cons (pg_name nd rfl (by first | exact .inl rfl | exact .inr rfl)) (pgs_nil)))))))))
    (ds_one (ds_ret (de_tup (dl_cons (de_callN h_store_copied (hr.mono (by decide)) rfl (dl_cons (dv 2) (dl_nil))) (dl_cons (de_tup (dl_cons (dv 3) (dl_nil))) (dl_nil))))))
end E64
/-! the source: pick -/
namespace E64
open PySem PySem.Spec PyProof.Rows L2
/-- any number below the most -/
def g_l_pick : List D → (D → Prop) → Prop
  | [.src, .int m], Q => m < 1000000 ∧ ∀ r : Int, 0 ≤ r → (r < m ∨ r = 0) → Q (.int r)
  | _, _ => False
/-- any order -/
def g_l_any_order : List D → (D → Prop) → Prop
  | [.src, .lst ds], Q => ds.length < 1000 ∧ ∀ es, es.Perm ds → Q (.lst es)
  | _, _ => False
structure SrcAt (S : Sa) (R H : Hp) (cs : List Int) (l m t : Int) : Prop where
  rs : R S.s = none
  rc : R S.c = none
  hs : H S.s = some (.dK (srcD S.c l m t))
  hc : H S.c = some (.lst (cs.map V.int))
section
variable {S : Sa} {R H : Hp} {cs : List Int} {l m t : Int}
theorem SrcAt.ne (a : SrcAt S R H cs l m t) : S.s ≠ S.c := fun e => by have h1 := a.hs; have h2 := a.hc; rw [e] at h1; rw [h1] at h2; cases h2
theorem SrcAt.put (a : SrcAt S R H cs l m t) (w : Wd S R H) (l' m' t' : Int) : SrcAt S R (upd H S.s (.dK (srcD S.c l' m' t'))) cs l' m' t' ∧ Wx S [] R H R (upd H S.s (.dK (srcD S.c l' m' t'))) := by
  have ne := a.ne
  have a' : SrcAt S R (upd H S.s (.dK (srcD S.c l' m' t'))) cs l' m' t' := ⟨a.rs, a.rc, upd_same, by rw [upd_ne (Ne.symm ne)]; exact a.hc⟩
  refine ⟨a', Evl.Ex.refl R, ⟨fun b o e => ?_, fun b f o e => ?_⟩, fun b o _ h1 h2 e => by rw [upd_ne h1]; exact e, fun b e => ?_, fun _ _ _ e => e, ⟨a.rs, a.rc, cs, l', m', t', a'.hs, a'.hc⟩⟩
  · have : b ≠ S.s := fun z => by rw [z, a.rs] at e; cases e
    rcases w.rh b o e with q | ⟨f, q⟩
    · exact .inl (by rw [upd_ne this]; exact q)
    · exact .inr ⟨f, by rw [upd_ne this]; exact q⟩
  · have : b ≠ S.s := fun z => by rw [z, a.rs] at e; cases e
    rw [upd_ne this]; exact w.rh.nf b f o e
  · by_cases z : b = S.s
    · rw [z, upd_same]; simp
    · rw [upd_ne z]; exact e
theorem SrcAt.pop (a : SrcAt S R H cs l m t) (w : Wd S R H) (cs' : List Int) : SrcAt S R (upd H S.c (.lst (cs'.map V.int))) cs' l m t ∧ Wx S [] R H R (upd H S.c (.lst (cs'.map V.int))) := by
  have ne := a.ne
  have a' : SrcAt S R (upd H S.c (.lst (cs'.map V.int))) cs' l m t := ⟨a.rs, a.rc, by rw [upd_ne ne]; exact a.hs, upd_same⟩
  refine ⟨a', Evl.Ex.refl R, ⟨fun b o e => ?_, fun b f o e => ?_⟩, fun b o _ h1 h2 e => by rw [upd_ne h2]; exact e, fun b e => ?_, fun _ _ _ e => e, ⟨a.rs, a.rc, cs', l, m, t, a'.hs, a'.hc⟩⟩
  · have : b ≠ S.c := fun z => by rw [z, a.rc] at e; cases e
    rcases w.rh b o e with q | ⟨f, q⟩
    · exact .inl (by rw [upd_ne this]; exact q)
    · exact .inr ⟨f, by rw [upd_ne this]; exact q⟩
  · have : b ≠ S.c := fun z => by rw [z, a.rc] at e; cases e
    rw [upd_ne this]; exact w.rh.nf b f o e
  · by_cases z : b = S.c
    · rw [z, upd_same]; simp
    · rw [upd_ne z]; exact e
theorem srcAt_of (w : Wd S R H) : ∃ cs l m t, SrcAt S R H cs l m t := by
  obtain ⟨h1, h2, cs, l, m, t, h3, h4⟩ := w.so
  exact ⟨cs, l, m, t, h1, h2, h3, h4⟩
end
/-! reading the source's dict -/
theorem kn {a b : Str} (h : a ≠ b) (v : V) : ¬ ((.inr a : Key), v).1 = .inr b := fun e => h (Sum.inr.inj e)
theorem src_cells (c : Addr) (l m t : Int) : valV (srcD c l m t) (.inr "cells") = some (.ref c) := by
  unfold srcD; rw [valV_pos rfl]
theorem src_left (c : Addr) (l m t : Int) : valV (srcD c l m t) (.inr "left") = some (.int l) := by
  unfold srcD; rw [valV_neg (kn (by decide +kernel) _), valV_pos rfl]
theorem src_mixed (c : Addr) (l m t : Int) : valV (srcD c l m t) (.inr "mixed") = some (.int m) := by
  unfold srcD; rw [valV_neg (kn (by decide +kernel) _), valV_neg (kn (by decide +kernel) _), valV_pos rfl]
theorem src_turn (c : Addr) (l m t : Int) : valV (srcD c l m t) (.inr "turn") = some (.int t) := by
  unfold srcD; rw [valV_neg (kn (by decide +kernel) _), valV_neg (kn (by decide +kernel) _), valV_neg (kn (by decide +kernel) _), valV_pos rfl]
theorem put_left (c : Addr) (l m t x : Int) : putK (srcD c l m t) (.inr "left") (.int x) = srcD c x m t := by
  have h1 : decide ((.inr "cells" : Key) = .inr "left") = false := by decide +kernel
  have h2 : decide ((.inr "mixed" : Key) = .inr "left") = false := by decide +kernel
  have h3 : decide ((.inr "turn" : Key) = .inr "left") = false := by decide +kernel
  have n1 : ¬ ((.inr "cells" : Key) = .inr "left") := of_decide_eq_false h1
  have n2 : ¬ ((.inr "mixed" : Key) = .inr "left") := of_decide_eq_false h2
  have n3 : ¬ ((.inr "turn" : Key) = .inr "left") := of_decide_eq_false h3
  unfold putK srcD
  simp [n1, n2, n3]
theorem put_turn (c : Addr) (l m t x : Int) : putK (srcD c l m t) (.inr "turn") (.int x) = srcD c l m x := by
  have n1 : ¬ ((.inr "cells" : Key) = .inr "turn") := by decide +kernel
  have n2 : ¬ ((.inr "mixed" : Key) = .inr "turn") := by decide +kernel
  have n3 : ¬ ((.inr "left" : Key) = .inr "turn") := by decide +kernel
  unfold putK srcD
  simp [n1, n2, n3]
theorem get_of {H : Hp} {a : Addr} {kvs : List (Key × V)} {k : Str} {v : V} (h : H a = some (.dK kvs)) (e : valV kvs (.inr k) = some v) : DGet H a (.str k) (some v) := by
  rw [← e]; exact DGet_of (.inl h)
abbrev rLt : R2 := rI0 fun i j => .bl (decide (i < j))
abbrev rGt : R2 := rI0 fun i j => .bl (decide (j < i))
abbrev rInt1 : List V → Hp → VK → Prop := fun xs H Q => (∃ i, xs = [.int i] ∧ Q (.int i) H) ∨ ∃ k, xs = [.bl k] ∧ Q (.int (if k then 1 else 0)) H
abbrev rLen1 (K : PySem.W.Frag) : List V → Hp → VK → Prop := fun xs H Q => ∃ p ys, xs = [.ref p] ∧ (SqL K H p ys ∨ SqT K H p ys) ∧ Q (.int ys.length) H
abbrev rMod1 : R2 := rI (fun _ j => 0 < j) fun i j => .int (i % j)
abbrev rAdd1 : R2 := rI0 fun i j => .int (i + j)
abbrev rMul1 : R2 := rI CMul fun i j => .int (i * j)
abbrev rDiv1 : R2 := rI CDiv fun i j => .int (i / j)
abbrev tK (k : Str) : TE := tDGet (tVar 0) (tC (.str k))
abbrev tCall1 (r : List V → Hp → VK → Prop) (t : TE) : TE := tCB r (tCons t tNil)
def t_pick (K : PySem.W.Frag) : TS :=
  tSeq (tIfS (tTest (tOp rLt (tVar 1) (tC (.int 2)))) (tRet (tC (.int 0))) tNext)
  (tSeq (tAsg (tK "cells") (gName 2))
  (tSeq (tWhile (tAnd (tTest (tOp rLt (tK "left") (tC (.int 2)))) (tTest (tOp rGt (tCall1 (rLen1 K) (tVar 2)) (tC (.int 0))))) (sDPut (tVar 0) (tC (.str "left")) (tBM0 K "list" rPop (tVar 2))))
  (tSeq (tAsg (tK "left") (gName 3))
  (tSeq (tIfS (tTest (tOp rGt (tVar 3) (tC (.int 1)))) (tSeq (sDPut (tVar 0) (tC (.str "left")) (tOp rDiv1 (tVar 3) (tVar 1))) (tRet (tOp rMod1 (tCall1 rInt1 (tVar 3)) (tVar 1)))) tNext)
  (tSeq (sDPut (tVar 0) (tC (.str "turn")) (tOp rAdd1 (tK "turn") (tC (.int 1))))
  (tSeq (tAsg (tK "turn") (gName 4))
  (tSeq (tAsg (tOp rMod1 (tCall1 rInt1 (tOp rAdd1 (tK "mixed") (tOp rMul1 (tVar 4) (tC (.int 104729))))) (tC (.int 998244353))) (gName 5))
  (tSeq (tAsg (tOp rMod1 (tCall1 rInt1 (tOp rAdd1 (tOp rMul1 (tVar 5) (tVar 5)) (tOp rMul1 (tVar 4) (tC (.int 17))))) (tC (.int 2147483647))) (gName 5))
  (tRet (tOp rMod1 (tCall1 rInt1 (tOp rDiv1 (tVar 5) (tC (.int 16)))) (tVar 1)))))))))))
abbrev N_l_pick : List Str := ["_law_source", "_law_most", "_law_cells", "_law_others", "_law_lap", "_law_stirred"]
abbrev s_l_pick : Stmt := top 31
theorem sc_l_pick : FnScope N_l_pick ["_law_source", "_law_most"] (defScope s_l_pick) := C8.fnScope_by (by decide +kernel)
section
variable {P : Program} {w : World} {K : PySem.W.Frag} {mg : Str → Option Value} {base : Heap} {f : Addr} {fd : FuncData}
theorem body_pick (B : Bl mg) (cdv : Value) (A : Around) (outer : List PySem.Env) (s : Shared) (H : Hp) (E : XK) (hr : Room 0 (A.deeper (envOfC "_law_pick" (defScope s_l_pick) s.heap.objs.size f cdv))) :
    PSs (cxOf CX0 P w K mg base N_l_pick "_law_pick" (defScope s_l_pick) f cdv A outer s H E).nox (defBody s_l_pick) (t_pick K) := by
  have nd := sc_l_pick.nd
  have hu1 := room_u1 hr
  have len1 : ∀ {e : Expr} {t : TE} {p pos : Pos}, PE (cxOf CX0 P w K mg base N_l_pick "_law_pick" (defScope s_l_pick) f cdv A outer s H E).nox e t → starEach [e] (cxOf CX0 P w K mg base N_l_pick "_law_pick" (defScope s_l_pick) f cdv A outer s H E).nox.env = (false, eval e (cxOf CX0 P w K mg base N_l_pick "_law_pick" (defScope s_l_pick) f cdv A outer s H E).nox.env) :: starEach [] (cxOf CX0 P w K mg base N_l_pick "_law_pick" (defScope s_l_pick) f cdv A outer s H E).nox.env → PE (cxOf CX0 P w K mg base N_l_pick "_law_pick" (defScope s_l_pick) f cdv A outer s H E).nox (.Call (.Name "len" p) [e] [] pos) (tCall1 (rLen1 K) t) := fun h hs =>
    pe_callB call_len_seq rfl B.len_ PySem.boot_len (pa_cons h pa_nil hs) (by decide) (by decide) hs rfl
  have int1 : ∀ {e : Expr} {t : TE} {p pos : Pos}, PE (cxOf CX0 P w K mg base N_l_pick "_law_pick" (defScope s_l_pick) f cdv A outer s H E).nox e t → starEach [e] (cxOf CX0 P w K mg base N_l_pick "_law_pick" (defScope s_l_pick) f cdv A outer s H E).nox.env = (false, eval e (cxOf CX0 P w K mg base N_l_pick "_law_pick" (defScope s_l_pick) f cdv A outer s H E).nox.env) :: starEach [] (cxOf CX0 P w K mg base N_l_pick "_law_pick" (defScope s_l_pick) f cdv A outer s H E).nox.env → PE (cxOf CX0 P w K mg base N_l_pick "_law_pick" (defScope s_l_pick) f cdv A outer s H E).nox (.Call (.Name "int" p) [e] [] pos) (tCall1 rInt1 t) := fun h hs =>
    pe_callTy call_int1 rfl B.int_ (by decide +kernel) (pa_cons h pa_nil hs) (by decide) (by decide) hs rfl
  exact pss_cons (ps_if (pt_cmpR op_lt (pv 1) pe_int (nomark _)) (pss_one (ps_ret pe_int)) pss_nil)
    (pss_cons (ps_asg (pe_dget hu1 (pv 0) pe_str (fun _ _ => rfl)) (pg_name nd rfl (.inl rfl)))
    (pss_cons (ps_while PassesOwn.never (pw_and (pt_cmpR op_lt (pe_dget hu1 (pv 0) pe_str (fun _ _ => rfl)) pe_int (nomark _)) (pw_and1 (pt_cmpR op_gt (len1 (pv 2) rfl) pe_int (nomark _)))).pt (pss_one (ps_dput hu1 (pv 0) pe_str (pe_bm0 F.plainAttrs_list F.slot_list_pop F.type_list_pop mt_pop (pv 2)) rfl)))
    (pss_cons (ps_asg (pe_dget hu1 (pv 0) pe_str (fun _ _ => rfl)) (pg_name nd rfl (.inl rfl)))
    (pss_cons (ps_if (pt_cmpR op_gt (pv 3) pe_int (nomark _)) (pss_cons (ps_dput hu1 (pv 0) pe_str (pe_op op_fdiv (pv 3) (pv 1)) rfl) (pss_one (ps_ret (pe_op op_mod (int1 (pv 3) rfl) (pv 1))))) pss_nil)
    (pss_cons (ps_dput hu1 (pv 0) pe_str (pe_op op_add (pe_dget hu1 (pv 0) pe_str (fun _ _ => rfl)) pe_int) rfl)
    (pss_cons (ps_asg (pe_dget hu1 (pv 0) pe_str (fun _ _ => rfl)) (pg_name nd rfl (.inl rfl)))
    (pss_cons (ps_asg (pe_op op_mod (int1 (pe_op op_add (pe_dget hu1 (pv 0) pe_str (fun _ _ => rfl)) (pe_op op_mul (pv 4) pe_int)) rfl) pe_int) (pg_name nd rfl (.inl rfl)))
    (pss_cons (ps_asg (pe_op op_mod (int1 (pe_op op_add (pe_op op_mul (pv 5) (pv 5)) (pe_op op_mul (pv 4) pe_int)) rfl) pe_int) (pg_name nd rfl (.inl rfl)))
    (pss_one (ps_ret (pe_op op_mod (int1 (pe_op op_fdiv (pv 5) pe_int) rfl) (pv 1))))))))))))
end
end E64
namespace E64
open PySem PySem.Spec PyProof.Rows L2
section
variable {K : PySem.W.Frag}
theorem dget_src {S : Sa} {R H : Hp} {cs : List Int} {l m t : Int} (a : SrcAt S R H cs l m t) {σ : L2.St} {k : Str} {v : V} {Q : VK} (h0 : σ[0]? = some (some (.ref S.s))) (e : valV (srcD S.c l m t) (.inr k) = some v) (q : Q v H) : tK k σ H Q :=
  ⟨_, h0, S.s, v, rfl, get_of a.hs e, q⟩
/-- the last part: a number of the turn -/
theorem pick_fin {S : Sa} {R0 H0 R H : Hp} {cs : List Int} {l m t mm : Int} {vs : L2.St} {Qd : D → Prop} {Q : VK} (w0 : Wx S [] R0 H0 R H) (k : ∀ d v R' H', Qd d → Wx S [] R0 H0 R' H' → Rep K S R' v d → Q v H') (r : Int) (q : Qd (.int r)) : Q (.int r) H := k _ _ R H q w0 (.int r)
theorem emod_lt (a : Int) {b : Int} (h : 0 < b) : 0 ≤ a % b ∧ a % b < b := ⟨Int.emod_nonneg a (by omega), Int.emod_lt_of_pos a h⟩
theorem pure_pick (vs : List V) (H : Hp) (Q : VK) (E : XK) (h : spD K 2 g_l_pick vs H Q E) : t_pick K { nx := fun _ H' => Q .non H', rt := Q } (L2.start N_l_pick vs) H := by
  obtain ⟨S, R, ds, Qd, wd, r, hl, hf, k⟩ := h
  obtain ⟨mo, rfl, hmo, hQ⟩ : ∃ mo, ds = [.src, .int mo] ∧ mo < 1000000 ∧ ∀ r : Int, 0 ≤ r → (r < mo ∨ r = 0) → Qd (.int r) := by
    unfold g_l_pick at hf
    split at hf
    · exact ⟨_, rfl, hf.1, hf.2⟩
    · exact hf.elim
  obtain ⟨v1, v2, rfl, r1, r2⟩ := two_v r
  obtain rfl := int_v r2
  obtain rfl : v1 = .ref S.s := by cases r1; rfl
  have fin : ∀ (x : Int) {R' H' : Hp}, Wx S [] R H R' H' → 0 ≤ x → (x < mo ∨ x = 0) → Q (.int x) H' := fun x R' H' w h0 h1 => k _ _ R' H' (hQ x h0 h1) w (.int x)
  show t_pick K _ [some (.ref S.s), some (.int mo), none, none, none, none] H
  obtain ⟨cs, l, m, t, a⟩ := srcAt_of wd
  refine ⟨_, rfl, _, _, rfl, rfl, _, rfl, ?_⟩
  by_cases hm : mo < 2
  · (rw [decide_eq_true hm]; refine iteT ?_)
    exact fin 0 wd.refl (Int.le_refl _) (.inr rfl)
  (rw [decide_eq_false hm]; refine iteF ?_)
  refine dget_src a rfl (src_cells ..) ?_
  -- the walk over the cells
  refine ⟨fun n σ' H' => σ' = [some (.ref S.s), some (.int mo), some (.ref S.c), none, none, none] ∧ ∃ cs' l', n = cs'.length ∧ SrcAt S R H' cs' l' m t ∧ Wx S [] R H R H', ⟨cs.length, rfl, cs, l, rfl, a, wd.refl⟩, ?_⟩
  rintro n σ' H' ⟨rfl, cs', l', rfl, a', w'⟩
  refine dget_src a' rfl (src_left ..) ⟨_, _, rfl, rfl, _, rfl, ?_⟩
  have after : ∀ {H'' : Hp} {cs'' : List Int} {l'' : Int}, SrcAt S R H'' cs'' l'' m t → Wx S [] R H R H'' → (tSeq (tAsg (tK "left") (gName 3))
      (tSeq (tIfS (tTest (tOp rGt (tVar 3) (tC (.int 1)))) (tSeq (sDPut (tVar 0) (tC (.str "left")) (tOp rDiv1 (tVar 3) (tVar 1))) (tRet (tOp rMod1 (tCall1 rInt1 (tVar 3)) (tVar 1)))) tNext)
      (tSeq (sDPut (tVar 0) (tC (.str "turn")) (tOp rAdd1 (tK "turn") (tC (.int 1))))
      (tSeq (tAsg (tK "turn") (gName 4))
      (tSeq (tAsg (tOp rMod1 (tCall1 rInt1 (tOp rAdd1 (tK "mixed") (tOp rMul1 (tVar 4) (tC (.int 104729))))) (tC (.int 998244353))) (gName 5))
      (tSeq (tAsg (tOp rMod1 (tCall1 rInt1 (tOp rAdd1 (tOp rMul1 (tVar 5) (tVar 5)) (tOp rMul1 (tVar 4) (tC (.int 17))))) (tC (.int 2147483647))) (gName 5))
      (tRet (tOp rMod1 (tCall1 rInt1 (tOp rDiv1 (tVar 5) (tC (.int 16)))) (tVar 1))))))))) { nx := fun _ H' => Q .non H', rt := Q } [some (.ref S.s), some (.int mo), some (.ref S.c), none, none, none] H'' := by
    intro H2 cs2 l2 a2 w2
    refine dget_src a2 rfl (src_left ..) ?_
    refine ⟨_, rfl, _, _, rfl, rfl, _, rfl, ?_⟩
    by_cases h1 : (1 : Int) < l2
    · (rw [decide_eq_true h1]; refine iteT ?_)
      refine ⟨_, rfl, _, rfl, _, _, rfl, rfl, ⟨by omega, by omega⟩, _, rfl, S.s, _, rfl, .inl ⟨_, .inr "left", a2.hs, rfl, (show 4 < sizeLine by decide), rfl⟩, ?_⟩
      rw [put_left]
      obtain ⟨a3, w3⟩ := a2.put w2.wd (l2 / mo) m t
      refine ⟨_, rfl, .inl ⟨_, rfl, ?_⟩⟩
      refine ⟨_, rfl, _, _, rfl, rfl, by show (0 : Int) < mo; omega, ?_⟩
      obtain ⟨e1, e2⟩ := emod_lt l2 (b := mo) (by omega)
      exact fin _ (w2.tr w3) e1 (.inl e2)
    · (rw [decide_eq_false h1]; refine iteF ?_)
      refine dget_src a2 rfl (src_turn ..) ⟨_, _, rfl, rfl, _, rfl, S.s, _, rfl, .inl ⟨_, .inr "turn", a2.hs, rfl, (show 4 < sizeLine by decide), rfl⟩, ?_⟩
      rw [put_turn]
      obtain ⟨a3, w3⟩ := a2.put w2.wd l2 m (t + 1)
      have w03 := w2.tr w3
      refine dget_src a3 rfl (src_turn ..) ?_
      refine dget_src a3 rfl (src_mixed ..) ⟨_, rfl, _, _, rfl, rfl, .inr ⟨by decide, by decide⟩, _, _, rfl, rfl, .inl ⟨_, rfl, _, _, rfl, rfl, by show (0 : Int) < 998244353; decide, ?_⟩⟩
      obtain ⟨b1, b2⟩ := emod_lt (m + (t + 1) * 104729) (b := 998244353) (by decide)
      refine ⟨_, rfl, _, rfl, _, _, rfl, rfl, .inl ⟨by omega, by omega⟩, _, rfl, _, _, rfl, rfl, .inr ⟨by decide, by decide⟩, _, _, rfl, rfl, .inl ⟨_, rfl, _, _, rfl, rfl, by show (0 : Int) < 2147483647; decide, ?_⟩⟩
      refine ⟨_, rfl, _, _, rfl, rfl, ⟨by decide, by decide⟩, .inl ⟨_, rfl, _, rfl, _, _, rfl, rfl, by show (0 : Int) < mo; omega, ?_⟩⟩
      exact fin _ w03 (emod_lt _ (by omega)).1 (.inl (emod_lt _ (by omega)).2)
  by_cases hl2 : l' < 2
  · (rw [decide_eq_true hl2]; refine iteT ?_)
    refine ⟨_, rfl, S.c, _, rfl, .inl (.inl (.inl a'.hc)), _, _, rfl, rfl, _, rfl, ?_⟩
    rw [List.length_map]
    by_cases hc : (0 : Int) < (cs'.length : Int)
    · (rw [decide_eq_true hc]; refine iteT ?_)
      refine ⟨fun σ'' H'' => σ'' = [some (.ref S.s), some (.int mo), some (.ref S.c), none, none, none] ∧ ∃ cs'' l'', cs''.length < cs'.length ∧ SrcAt S R H'' cs'' l'' m t ∧ Wx S [] R H R H'', fun σ'' H'' ⟨e, cs'', l'', h1, h2, h3⟩ => ⟨cs''.length, h1, e, cs'', l'', rfl, h2, h3⟩, ?_⟩
      have hne : cs' ≠ [] := fun z => by rw [z] at hc; simp at hc
      obtain ⟨x, hx⟩ : ∃ x, cs'[cs'.length - 1]? = some x := by
        have : cs'.length - 1 < cs'.length := by omega
        exact ⟨cs'[cs'.length - 1], List.getElem?_eq_getElem this⟩
      refine ⟨_, rfl, .inl ⟨rfl, _, .inl (.inl a'.hc)⟩, S.c, _, .int x, rfl, rfl, a'.hc, by rw [List.length_map, List.getElem?_map, hx] <;> rfl, ?_⟩
      have ed : (cs'.map V.int).dropLast = cs'.dropLast.map V.int := (List.map_dropLast ..).symm
      rw [ed]
      obtain ⟨a3, w3⟩ := a'.pop w'.wd cs'.dropLast
      refine ⟨_, rfl, S.s, _, rfl, .inl ⟨_, .inr "left", a3.hs, rfl, (show 4 < sizeLine by decide), rfl⟩, ?_⟩
      rw [put_left]
      obtain ⟨a4, w4⟩ := a3.put (w'.tr w3).wd x m t
      exact ⟨rfl, cs'.dropLast, x, by rw [List.length_dropLast]; omega, a4, (w'.tr w3).tr w4⟩
    · (rw [decide_eq_false hc]; refine iteF ?_)
      exact after a' w'
  · (rw [decide_eq_false hl2]; refine iteF ?_)
    exact after a' w'
end
section
variable {P : Program} {w : World} {K : PySem.W.Frag} {mg : Str → Option Value} {base : Heap} {f : Addr} {fd : FuncData}
theorem w_l_pick (B : Bl mg) (F : FunD K "_law_pick" "_law_pick" (defArgs s_l_pick) (defBody s_l_pick) (defScope s_l_pick) [] [] f fd) (hm : mg "_law_pick" = some (.ref f)) : Fn P w K mg base 1 2 "_law_pick" g_l_pick :=
  ⟨f, fd, _, F.ok sc_l_pick (spD_len rfl) fun cdv A outer s H vs Q E hr h => ⟨_, (body_pick B cdv A outer s H E hr).nox, pure_pick vs H Q E h⟩, hm, F.kp, F.bindsN fun _ _ _ _ _ _ us hl => match us, hl with | [_, _], _ => rfl⟩
end
end E64
namespace E64
open PySem PySem.Spec PyProof.Rows L2
/-! law draw value -/
abbrev s_l_draw_value : Stmt := top 33
abbrev N_l_draw_value : List Str := ["_law_source"]
theorem sc_l_draw_value : FnScope N_l_draw_value ["_law_source"] (defScope s_l_draw_value) := C8.fnScope_by (by decide +kernel)
def c_l_draw_value : CS := sRet (cOp fIx (cLst (aCons (cC .non) (aCons (cC (.int 0)) (aCons (cC (.int 1)) (aCons (cC (.int 2)) (aCons (cC (.int 3)) (aCons (cOp fSub (cC (.int 0)) (cC (.int 1))) (aCons (cC (.int 7)) (aCons (cC (.str "a")) (aCons (cC (.str "b")) (aCons (cC (.str "ab 1")) (aCons (cC (.str "")) (aCons (cOp fPow (cC (.int 10)) (cC (.int 6))) (aNil)))))))))))))) (cCall 2 g_l_pick (aCons (cVar 0) (aCons (cC (.int 12)) (aNil)))))
def g_l_draw_value : List D → (D → Prop) → Prop := fun ds Q => c_l_draw_value (env0 N_l_draw_value ds) (fun _ => Q .non) Q
theorem w_l_draw_value {P : Program} {w : World} {K : PySem.W.Frag} {mg : Str → Option Value} {base : Heap} {f : Addr} {fd : FuncData} (B : Bl mg) (h_l_pick : Fn P w K mg base 1 2 "_law_pick" g_l_pick) (F : FunD K "_law_draw_value" "_law_draw_value" (defArgs s_l_draw_value) (defBody s_l_draw_value) (defScope s_l_draw_value) [] [] f fd) (hm : mg "_law_draw_value" = some (.ref f)) : Fn P w K mg base 2 1 "_law_draw_value" g_l_draw_value := by
  refine ⟨f, fd, _, fn_d F sc_l_draw_value rfl (fun cdv A outer s H E hr => ?_) (fun _ _ _ h => h), hm, F.kp, F.bindsN fun _ _ _ _ _ _ us hl => match us, hl with | [_], _ => rfl⟩
  have nd := sc_l_draw_value.nd
  have hu1 := room_u1 hr
  have hu64 := room_u64 hr
  exact ds_one (ds_ret (de_ix (de_of (df_lst (dl_cons (de_non) (dl_cons (de_int) (dl_cons (de_int) (dl_cons (de_int) (dl_cons (de_int) (dl_cons (de_sub (de_int) (de_int)) (dl_cons (de_int) (dl_cons (de_str) (dl_cons (de_str) (dl_cons (de_str) (dl_cons (de_str) (dl_cons (de_pow (de_int) (de_int)) (dl_nil))))))))))))))) (de_callN h_l_pick (hr.mono (by decide)) rfl (dl_cons (dv 0) (dl_cons (de_int) (dl_nil))))))

/-! law job -/
abbrev s_l_job : Stmt := top 36
abbrev N_l_job : List Str := ["_law_book", "_law_name", "_law_job_here"]
theorem sc_l_job : FnScope N_l_job ["_law_book", "_law_name"] (defScope s_l_job) := C8.fnScope_by (by decide +kernel)
def c_l_job : CS := sRet (cGetN (cCB fDict (aCons (cComp (wTup (cOp fIx (cVar 0) (cC (.int 1)))) [2] (gN 2) (bYes) (cTup (aCons (cOp fIx (cVar 2) (cC (.int 0))) (aCons (cVar 2) (aNil))))) (aNil))) (cVar 1) (cC .non))
def g_l_job : List D → (D → Prop) → Prop := fun ds Q => c_l_job (env0 N_l_job ds) (fun _ => Q .non) Q
theorem w_l_job {P : Program} {w : World} {K : PySem.W.Frag} {mg : Str → Option Value} {base : Heap} {f : Addr} {fd : FuncData} (B : Bl mg) (F : FunD K "_law_job" "_law_job" (defArgs s_l_job) (defBody s_l_job) (defScope s_l_job) [] [] f fd) (hm : mg "_law_job" = some (.ref f)) : Fn P w K mg base 1 2 "_law_job" g_l_job := by
  refine ⟨f, fd, _, fn_d F sc_l_job rfl (fun cdv A outer s H E hr => ?_) (fun _ _ _ h => h), hm, F.kp, F.bindsN fun _ _ _ _ _ _ us hl => match us, hl with | [_, _], _ => rfl⟩
  have nd := sc_l_job.nd
  have hu1 := room_u1 hr
  have hu64 := room_u64 hr
  exact ds_one (ds_ret (de_getN hu1 (de_of (df_dict rfl rfl B.dict_ (dl_cons (de_of (df_comp (own := [("_law_job_here", 2)]) (is := [2]) rfl nd (di_tup (de_ix (dv 0) (de_int))) (blkOk_by (by kernel_rfl)) (fun _ _ _ _ _ => dg_name (pg_name nd rfl (by first | exact .inl rfl | exact .inr rfl))) (fun _ _ _ _ _ => dts_nil) (fun _ _ _ _ _ => de_tup (dl_cons (de_ix (dv 2) (de_int)) (dl_cons (dv 2) (dl_nil)))))) (dl_nil)))) (dv 1) (de_non)))

/-! law fresh -/
abbrev s_l_fresh : Stmt := top 37
abbrev N_l_fresh : List Str := ["_law_book"]
theorem sc_l_fresh : FnScope N_l_fresh ["_law_book"] (defScope s_l_fresh) := C8.fnScope_by (by decide +kernel)
def c_l_fresh : CS := sRet (cDisp [("book", cVar 0), ("time", cC (.int 0)), ("epoch", cC (.int 0)), ("moment", cC (.int 0)), ("fence", cC (.int 0)), ("holds", cC (.dct [])), ("ends", cC (.dct [])), ("barred", cC (.dct [])), ("freed", cTup (aNil))])
def g_l_fresh : List D → (D → Prop) → Prop := fun ds Q => c_l_fresh (env0 N_l_fresh ds) (fun _ => Q .non) Q
theorem w_l_fresh {P : Program} {w : World} {K : PySem.W.Frag} {mg : Str → Option Value} {base : Heap} {f : Addr} {fd : FuncData} (B : Bl mg) (F : FunD K "_law_fresh" "_law_fresh" (defArgs s_l_fresh) (defBody s_l_fresh) (defScope s_l_fresh) [] [] f fd) (hm : mg "_law_fresh" = some (.ref f)) : Fn P w K mg base 1 1 "_law_fresh" g_l_fresh := by
  refine ⟨f, fd, _, fn_d F sc_l_fresh rfl (fun cdv A outer s H E hr => ?_) (fun _ _ _ h => h), hm, F.kp, F.bindsN fun _ _ _ _ _ _ us hl => match us, hl with | [_], _ => rfl⟩
  have nd := sc_l_fresh.nd
  have hu1 := room_u1 hr
  have hu64 := room_u64 hr
  exact ds_one (ds_ret (de_of (df_disp (dps_cons (dv 0) (dps_cons (de_int) (dps_cons (de_int) (dps_cons (de_int) (dps_cons (de_int) (dps_cons (de_of (df_dnew)) (dps_cons (de_of (df_dnew)) (dps_cons (de_of (df_dnew)) (dps_cons (de_tup (dl_nil)) (dps_nil)))))))))))))

/-! law outcome of -/
abbrev s_l_outcome_of : Stmt := top 38
abbrev N_l_outcome_of : List Str := ["_law_own", "_law_name", "_law_ends", "_law_tries", "_law_done", "_law_k"]
theorem sc_l_outcome_of : FnScope N_l_outcome_of ["_law_own", "_law_name"] (defScope s_l_outcome_of) := C8.fnScope_by (by decide +kernel)
def c_l_outcome_of : CS := sSeq (sAsg (cTup (aCons (cGetN (cDGet (cVar 0) (cC (.str "ends"))) (cVar 1) (cTup (aNil))) (aCons (cOp fIx (cCall 2 g_l_job (aCons (cDGet (cVar 0) (cC (.str "book"))) (aCons (cVar 1) (aNil)))) (cC (.int 6))) (aNil)))) (gT [2, 3]))
  (sSeq (sIf (cDIn (cVar 1) (cDGet (cVar 0) (cC (.str "barred")))) (sRet (cTup (aCons (cC (.str "barred")) (aCons (cDGet (cDGet (cVar 0) (cC (.str "barred"))) (cVar 1)) (aNil))))) (sNil))
  (sSeq (sSet 4 (cComp (wRng (aCons (cCB fLen (aCons (cVar 2) (aNil))) (aNil))) [5] (gN 5) (cTest (cOp fEq (cOp fIx (cOp fIx (cVar 2) (cVar 5)) (cC (.int 0))) (cC (.str "done")))) (cVar 5)))
  (sSeq (sIf (cTest (cOp fNe (cVar 4) (cLst (aNil)))) (sRet (cTup (aCons (cC (.str "done")) (aCons (cOp fAdd (cOp fIx (cVar 4) (cC (.int 0))) (cC (.int 1))) (aCons (cOp fIx (cOp fIx (cVar 2) (cOp fIx (cVar 4) (cC (.int 0)))) (cC (.int 5))) (aNil)))))) (sNil))
  (sRet (cIf (cTest (cOp fGe (cCB fLen (aCons (cVar 2) (aNil))) (cVar 3))) (cTup (aCons (cC (.str "failed")) (aCons (cVar 3) (aNil)))) (cC .non))))))
def g_l_outcome_of : List D → (D → Prop) → Prop := fun ds Q => c_l_outcome_of (env0 N_l_outcome_of ds) (fun _ => Q .non) Q
theorem w_l_outcome_of {P : Program} {w : World} {K : PySem.W.Frag} {mg : Str → Option Value} {base : Heap} {f : Addr} {fd : FuncData} (B : Bl mg) (h_l_job : Fn P w K mg base 1 2 "_law_job" g_l_job) (F : FunD K "_law_outcome_of" "_law_outcome_of" (defArgs s_l_outcome_of) (defBody s_l_outcome_of) (defScope s_l_outcome_of) [] [] f fd) (hm : mg "_law_outcome_of" = some (.ref f)) : Fn P w K mg base 2 2 "_law_outcome_of" g_l_outcome_of := by
  refine ⟨f, fd, _, fn_d F sc_l_outcome_of rfl (fun cdv A outer s H E hr => ?_) (fun _ _ _ h => h), hm, F.kp, F.bindsN fun _ _ _ _ _ _ us hl => match us, hl with | [_, _], _ => rfl⟩
  have nd := sc_l_outcome_of.nd
  have hu1 := room_u1 hr
  have hu64 := room_u64 hr
  exact ds_cons (ds_asg (de_tup (dl_cons (de_getN hu1 (de_dget hu1 (dv 0) (de_str)) (dv 1) (de_tup (dl_nil))) (dl_cons (de_ix (de_callN h_l_job (hr.mono (by decide)) rfl (dl_cons (de_dget hu1 (dv 0) (de_str)) (dl_cons (dv 1) (dl_nil)))) (de_int)) (dl_nil)))) (dg_tup (is := [2, 3]) rfl (pgs_cons (pg_name nd rfl (by first | exact .inl rfl | exact .inr rfl)) (pgs_cons (pg_name nd rfl (by first | exact .inl rfl | exact .inr rfl)) (pgs_nil)))))
    (ds_cons (ds_if (dt_din hu1 (dv 1) (de_dget hu1 (dv 0) (de_str))) (ds_one (ds_ret (de_tup (dl_cons (de_str) (dl_cons (de_dget hu1 (de_dget hu1 (dv 0) (de_str)) (dv 1)) (dl_nil)))))) (ds_nil))
    (ds_cons (ps_comp (own := [("_law_k", 5)]) (is := [5]) rfl nd (di_rng rfl B.range_ (dl_cons (de_len rfl B.len_ (dl_cons (dv 2) (dl_nil))) (dl_nil))) (blkOk_by (by kernel_rfl)) (fun _ _ _ _ _ => dg_name (pg_name nd rfl (by first | exact .inl rfl | exact .inr rfl))) (fun _ _ _ _ _ => dts_one (dt_eq hu64 (de_ix (de_ix (dv 2) (dv 5)) (de_int)) (de_str))) (fun _ _ _ _ _ => dv 5))
    (ds_cons (ds_if (dt_ne hu64 (dv 4) (de_of (df_lst (dl_nil)))) (ds_one (ds_ret (de_tup (dl_cons (de_str) (dl_cons (de_add (de_ix (dv 4) (de_int)) (de_int)) (dl_cons (de_ix (de_ix (dv 2) (de_ix (dv 4) (de_int))) (de_int)) (dl_nil))))))) (ds_nil))
    (ds_one (ds_ret (de_if (dt_ge (de_len rfl B.len_ (dl_cons (dv 2) (dl_nil))) (dv 3)) (de_tup (dl_cons (de_str) (dl_cons (dv 3) (dl_nil)))) (de_non)))))))

/-! law waits -/
abbrev s_l_waits : Stmt := top 39
abbrev N_l_waits : List Str := ["_law_own", "_law_name", "_law_job_here", "_law_found", "_law_need", "_law_told"]
theorem sc_l_waits : FnScope N_l_waits ["_law_own", "_law_name"] (defScope s_l_waits) := C8.fnScope_by (by decide +kernel)
def c_l_waits : CS := sSeq (sParO 2 3 (cCall 2 g_l_job (aCons (cDGet (cVar 0) (cC (.str "book"))) (aCons (cVar 1) (aNil)))) (cLst (aNil)))
  (sSeq (sFor (wTup (cOp fIx (cVar 2) (cC (.int 2)))) (gN 4) (sSeq (sSet 5 (cCall 2 g_l_outcome_of (aCons (cVar 0) (aCons (cVar 4) (aNil)))))
  (sIf (cOr (cTest (cOp fIs (cVar 5) (cC .non))) (cAnd (cTest (cOp fEq (cOp fIx (cVar 2) (cC (.int 1))) (cC (.str "all")))) (cTest (cOp fNe (cOp fIx (cVar 5) (cC (.int 0))) (cC (.str "done")))))) (sApp 3 (cVar 4)) (sNil))))
  (sRetO 3))
def g_l_waits : List D → (D → Prop) → Prop := fun ds Q => c_l_waits (env0 N_l_waits ds) (fun _ => Q .non) Q
theorem w_l_waits {P : Program} {w : World} {K : PySem.W.Frag} {mg : Str → Option Value} {base : Heap} {f : Addr} {fd : FuncData} (B : Bl mg) (h_l_job : Fn P w K mg base 1 2 "_law_job" g_l_job) (h_l_outcome_of : Fn P w K mg base 2 2 "_law_outcome_of" g_l_outcome_of) (F : FunD K "_law_waits" "_law_waits" (defArgs s_l_waits) (defBody s_l_waits) (defScope s_l_waits) [] [] f fd) (hm : mg "_law_waits" = some (.ref f)) : Fn P w K mg base 3 2 "_law_waits" g_l_waits := by
  refine ⟨f, fd, _, fn_d F sc_l_waits rfl (fun cdv A outer s H E hr => ?_) (fun _ _ _ h => h), hm, F.kp, F.bindsN fun _ _ _ _ _ _ us hl => match us, hl with | [_, _], _ => rfl⟩
  have nd := sc_l_waits.nd
  have hu1 := room_u1 hr
  have hu64 := room_u64 hr
  exact ds_cons (ds_parO (ps_par rfl nd rfl rfl (by decide) rfl rfl (pa_cons (de_callN h_l_job (hr.mono (by decide)) rfl (dl_cons (de_dget hu1 (dv 0) (de_str)) (dl_cons (dv 1) (dl_nil)))) (pa_cons (df_lst (dl_nil)) pa_nil)) rfl) (fun _ _ _ h => h) (fun _ _ _ h => h))
    (ds_cons (ds_for (is := [4]) rfl (di_tup (de_ix (dv 2) (de_int))) (dg_name (pg_name nd rfl (by first | exact .inl rfl | exact .inr rfl))) (ds_cons (ds_set nd (de_callN h_l_outcome_of (hr.mono (by decide)) rfl (dl_cons (dv 0) (dl_cons (dv 4) (dl_nil)))))
    (ds_one (ds_if (dt_w (dw_or (dt_is (dv 5) (de_non)) (dw_or1 (dt_w (dw_and (dt_eq hu64 (de_ix (dv 2) (de_int)) (de_str)) (dw_and1 (dt_ne hu64 (de_ix (dv 5) (de_int)) (de_str)))))))) (ds_one (ds_app (pv 3) (dv 4))) (ds_nil)))))
    (ds_one (ds_retO (pv 3))))

/-! law left -/
abbrev s_l_left : Stmt := top 40
abbrev N_l_left : List Str := ["_law_own", "_law_found", "_law_name", "_law_thing", "_law_units"]
theorem sc_l_left : FnScope N_l_left ["_law_own"] (defScope s_l_left) := C8.fnScope_by (by decide +kernel)
def c_l_left : CS := sSeq (sOwn 1 (cCB fDict (aCons (cOp fIx (cDGet (cVar 0) (cC (.str "book"))) (cC (.int 0))) (aNil))))
  (sSeq (sFor (wKeys (cPk 0 "holds")) (gN 2) (sFor (wTup (cOp fIx (cCall 2 g_l_job (aCons (cDGet (cVar 0) (cC (.str "book"))) (aCons (cVar 2) (aNil)))) (cC (.int 4)))) (gT [3, 4]) (sPut 1 (cVar 3) (cOp fSub (cGetO 1 (cVar 3)) (cVar 4)))))
  (sRetO 1))
def g_l_left : List D → (D → Prop) → Prop := fun ds Q => c_l_left (env0 N_l_left ds) (fun _ => Q .non) Q
theorem w_l_left {P : Program} {w : World} {K : PySem.W.Frag} {mg : Str → Option Value} {base : Heap} {f : Addr} {fd : FuncData} (B : Bl mg) (h_l_job : Fn P w K mg base 1 2 "_law_job" g_l_job) (F : FunD K "_law_left" "_law_left" (defArgs s_l_left) (defBody s_l_left) (defScope s_l_left) [] [] f fd) (hm : mg "_law_left" = some (.ref f)) : Fn P w K mg base 2 1 "_law_left" g_l_left := by
  refine ⟨f, fd, _, fn_d F sc_l_left rfl (fun cdv A outer s H E hr => ?_) (fun _ _ _ h => h), hm, F.kp, F.bindsN fun _ _ _ _ _ _ us hl => match us, hl with | [_], _ => rfl⟩
  have nd := sc_l_left.nd
  have hu1 := room_u1 hr
  have hu64 := room_u64 hr
  exact ds_cons (ds_own nd (df_dict rfl rfl B.dict_ (dl_cons (de_ix (de_dget hu1 (dv 0) (de_str)) (de_int)) (dl_nil))))
    (ds_cons (ds_forK (is := [2]) rfl (pe_dget hu1 (pv 0) pe_str (fun _ _ => rfl)) path_k (dg_name (pg_name nd rfl (by first | exact .inl rfl | exact .inr rfl))) (ds_one (ds_for (is := [3, 4]) rfl (di_tup (de_ix (de_callN h_l_job (hr.mono (by decide)) rfl (dl_cons (de_dget hu1 (dv 0) (de_str)) (dl_cons (dv 2) (dl_nil)))) (de_int))) (dg_tup (is := [3, 4]) rfl (pgs_cons (pg_name nd rfl (by first | exact .inl rfl | exact .inr rfl)) (pgs_cons (pg_name nd rfl (by first | exact .inl rfl | exact .inr rfl)) (pgs_nil)))) (ds_one (ds_put hu1 (pv 1) (dv 3) (de_sub (de_getO hu1 (pv 1) (dv 3)) (dv 4)))))))
    (ds_one (ds_retO (pv 1))))

/-! law hindered -/
abbrev s_l_hindered : Stmt := top 41
abbrev N_l_hindered : List Str := ["_law_own", "_law_name", "_law_job_here", "_law_waits_here", "_law_left_here", "_law_short", "_law_thing", "_law_units"]
theorem sc_l_hindered : FnScope N_l_hindered ["_law_own", "_law_name"] (defScope s_l_hindered) := C8.fnScope_by (by decide +kernel)
def c_l_hindered : CS := sSeq (sSet 2 (cCall 2 g_l_job (aCons (cDGet (cVar 0) (cC (.str "book"))) (aCons (cVar 1) (aNil)))))
  (sSeq (sIf (cTest (cOp fIs (cVar 2) (cC .non))) (sRet (cTup (aCons (cC (.str "job")) (aNil)))) (sNil))
  (sSeq (sIf (cOr (cTest (cOp fIsNot (cCall 2 g_l_outcome_of (aCons (cVar 0) (aCons (cVar 1) (aNil)))) (cC .non))) (cDIn (cVar 1) (cDGet (cVar 0) (cC (.str "holds"))))) (sRet (cIf (cTest (cOp fIsNot (cCall 2 g_l_outcome_of (aCons (cVar 0) (aCons (cVar 1) (aNil)))) (cC .non))) (cTup (aCons (cC (.str "ended")) (aNil))) (cTup (aCons (cC (.str "held")) (aNil))))) (sNil))
  (sSeq (sIf (cTest (cOp fLt (cDGet (cVar 0) (cC (.str "time"))) (cOp fIx (cVar 2) (cC (.int 7))))) (sRet (cTup (aCons (cC (.str "early")) (aCons (cOp fIx (cVar 2) (cC (.int 7))) (aNil))))) (sNil))
  (sSeq (sAsg (cTup (aCons (cCall 2 g_l_waits (aCons (cVar 0) (aCons (cVar 1) (aNil)))) (aCons (cCall 1 g_l_left (aCons (cVar 0) (aNil))) (aNil)))) (gT [3, 4]))
  (sSeq (sIf (cTest (cOp fNe (cVar 3) (cLst (aNil)))) (sRet (cTup (aCons (cC (.str "need")) (aCons (cOp fIx (cVar 3) (cC (.int 0))) (aNil))))) (sNil))
  (sSeq (sSet 5 (cComp (wTup (cOp fIx (cVar 2) (cC (.int 4)))) [6, 7] (gT [6, 7]) (cTest (cOp fLt (cDGet (cVar 4) (cVar 6)) (cVar 7))) (cVar 6)))
  (sRet (cIf (cTest (cOp fNe (cVar 5) (cLst (aNil)))) (cTup (aCons (cC (.str "units")) (aCons (cOp fIx (cVar 5) (cC (.int 0))) (aNil)))) (cC .non)))))))))
def g_l_hindered : List D → (D → Prop) → Prop := fun ds Q => c_l_hindered (env0 N_l_hindered ds) (fun _ => Q .non) Q
theorem w_l_hindered {P : Program} {w : World} {K : PySem.W.Frag} {mg : Str → Option Value} {base : Heap} {f : Addr} {fd : FuncData} (B : Bl mg) (h_l_job : Fn P w K mg base 1 2 "_law_job" g_l_job) (h_l_outcome_of : Fn P w K mg base 2 2 "_law_outcome_of" g_l_outcome_of) (h_l_left : Fn P w K mg base 2 1 "_law_left" g_l_left) (h_l_waits : Fn P w K mg base 3 2 "_law_waits" g_l_waits) (F : FunD K "_law_hindered" "_law_hindered" (defArgs s_l_hindered) (defBody s_l_hindered) (defScope s_l_hindered) [] [] f fd) (hm : mg "_law_hindered" = some (.ref f)) : Fn P w K mg base 4 2 "_law_hindered" g_l_hindered := by
  refine ⟨f, fd, _, fn_d F sc_l_hindered rfl (fun cdv A outer s H E hr => ?_) (fun _ _ _ h => h), hm, F.kp, F.bindsN fun _ _ _ _ _ _ us hl => match us, hl with | [_, _], _ => rfl⟩
  have nd := sc_l_hindered.nd
  have hu1 := room_u1 hr
  have hu64 := room_u64 hr
  exact ds_cons (ds_set nd (de_callN h_l_job (hr.mono (by decide)) rfl (dl_cons (de_dget hu1 (dv 0) (de_str)) (dl_cons (dv 1) (dl_nil)))))
    (ds_cons (ds_if (dt_is (dv 2) (de_non)) (ds_one (ds_ret (de_tup (dl_cons (de_str) (dl_nil))))) (ds_nil))
    (ds_cons (ds_if (dt_w (dw_or (dt_isnot (de_callN h_l_outcome_of (hr.mono (by decide)) rfl (dl_cons (dv 0) (dl_cons (dv 1) (dl_nil)))) (de_non)) (dw_or1 (dt_din hu1 (dv 1) (de_dget hu1 (dv 0) (de_str)))))) (ds_one (ds_ret (de_if (dt_isnot (de_callN h_l_outcome_of (hr.mono (by decide)) rfl (dl_cons (dv 0) (dl_cons (dv 1) (dl_nil)))) (de_non)) (de_tup (dl_cons (de_str) (dl_nil))) (de_tup (dl_cons (de_str) (dl_nil)))))) (ds_nil))
    (ds_cons (ds_if (dt_lt (de_dget hu1 (dv 0) (de_str)) (de_ix (dv 2) (de_int))) (ds_one (ds_ret (de_tup (dl_cons (de_str) (dl_cons (de_ix (dv 2) (de_int)) (dl_nil)))))) (ds_nil))
    (ds_cons (ds_asg (de_tup (dl_cons (de_callN h_l_waits (hr.mono (by decide)) rfl (dl_cons (dv 0) (dl_cons (dv 1) (dl_nil)))) (dl_cons (de_callN h_l_left (hr.mono (by decide)) rfl (dl_cons (dv 0) (dl_nil))) (dl_nil)))) (dg_tup (is := [3, 4]) rfl (pgs_cons (pg_name nd rfl (by first | exact .inl rfl | exact .inr rfl)) (pgs_cons (pg_name nd rfl (by first | exact .inl rfl | exact .inr rfl)) (pgs_nil)))))
    (ds_cons (ds_if (dt_ne hu64 (dv 3) (de_of (df_lst (dl_nil)))) (ds_one (ds_ret (de_tup (dl_cons (de_str) (dl_cons (de_ix (dv 3) (de_int)) (dl_nil)))))) (ds_nil))
    (ds_cons (ps_comp (own := [("_law_thing", 6), ("_law_units", 7)]) (is := [6, 7]) rfl nd (di_tup (de_ix (dv 2) (de_int))) (blkOk_by (by kernel_rfl)) (fun _ _ _ _ _ => dg_tup (is := [6, 7]) rfl (pgs_cons (pg_name nd rfl (by first | exact .inl rfl | exact .inr rfl)) (pgs_cons (pg_name nd rfl (by first | exact .inl rfl | exact .inr rfl)) (pgs_nil)))) (fun _ _ _ _ _ => dts_one (dt_lt (de_dget hu1 (dv 4) (dv 6)) (dv 7))) (fun _ _ _ _ _ => dv 6))
    (ds_one (ds_ret (de_if (dt_ne hu64 (dv 5) (de_of (df_lst (dl_nil)))) (de_tup (dl_cons (de_str) (dl_cons (de_ix (dv 5) (de_int)) (dl_nil)))) (de_non))))))))))

/-! law barring -/
abbrev s_l_barring : Stmt := top 42
abbrev N_l_barring : List Str := ["_law_own", "_law_name", "_law_waits_here"]
theorem sc_l_barring : FnScope N_l_barring ["_law_own", "_law_name"] (defScope s_l_barring) := C8.fnScope_by (by decide +kernel)
def c_l_barring : CS := sSeq (sSet 2 (cCall 2 g_l_waits (aCons (cVar 0) (aCons (cVar 1) (aNil)))))
  (sSeq (sIf (cOr (cTest (cOp fNe (cOp fIx (cCall 2 g_l_job (aCons (cDGet (cVar 0) (cC (.str "book"))) (aCons (cVar 1) (aNil)))) (cC (.int 1))) (cC (.str "all")))) (cOr (cTest (cOp fIsNot (cCall 2 g_l_outcome_of (aCons (cVar 0) (aCons (cVar 1) (aNil)))) (cC .non))) (cTest (cOp fEq (cVar 2) (cLst (aNil)))))) (sRet (cC .non)) (sNil))
  (sRet (cIf (cTest (cOp fIsNot (cCall 2 g_l_outcome_of (aCons (cVar 0) (aCons (cOp fIx (cVar 2) (cC (.int 0))) (aNil)))) (cC .non))) (cOp fIx (cVar 2) (cC (.int 0))) (cC .non))))
def g_l_barring : List D → (D → Prop) → Prop := fun ds Q => c_l_barring (env0 N_l_barring ds) (fun _ => Q .non) Q
theorem w_l_barring {P : Program} {w : World} {K : PySem.W.Frag} {mg : Str → Option Value} {base : Heap} {f : Addr} {fd : FuncData} (B : Bl mg) (h_l_waits : Fn P w K mg base 3 2 "_law_waits" g_l_waits) (h_l_outcome_of : Fn P w K mg base 2 2 "_law_outcome_of" g_l_outcome_of) (h_l_job : Fn P w K mg base 1 2 "_law_job" g_l_job) (F : FunD K "_law_barring" "_law_barring" (defArgs s_l_barring) (defBody s_l_barring) (defScope s_l_barring) [] [] f fd) (hm : mg "_law_barring" = some (.ref f)) : Fn P w K mg base 4 2 "_law_barring" g_l_barring := by
  refine ⟨f, fd, _, fn_d F sc_l_barring rfl (fun cdv A outer s H E hr => ?_) (fun _ _ _ h => h), hm, F.kp, F.bindsN fun _ _ _ _ _ _ us hl => match us, hl with | [_, _], _ => rfl⟩
  have nd := sc_l_barring.nd
  have hu1 := room_u1 hr
  have hu64 := room_u64 hr
  exact ds_cons (ds_set nd (de_callN h_l_waits (hr.mono (by decide)) rfl (dl_cons (dv 0) (dl_cons (dv 1) (dl_nil)))))
    (ds_cons (ds_if (dt_w (dw_or (dt_ne hu64 (de_ix (de_callN h_l_job (hr.mono (by decide)) rfl (dl_cons (de_dget hu1 (dv 0) (de_str)) (dl_cons (dv 1) (dl_nil)))) (de_int)) (de_str)) (dw_or (dt_isnot (de_callN h_l_outcome_of (hr.mono (by decide)) rfl (dl_cons (dv 0) (dl_cons (dv 1) (dl_nil)))) (de_non)) (dw_or1 (dt_eq hu64 (dv 2) (de_of (df_lst (dl_nil)))))))) (ds_one (ds_ret (de_non))) (ds_nil))
    (ds_one (ds_ret (de_if (dt_isnot (de_callN h_l_outcome_of (hr.mono (by decide)) rfl (dl_cons (dv 0) (dl_cons (de_ix (dv 2) (de_int)) (dl_nil)))) (de_non)) (de_ix (dv 2) (de_int)) (de_non)))))

/-! law values -/
abbrev s_l_values : Stmt := top 43
abbrev N_l_values : List Str := ["_law_own", "_law_name", "_law_found", "_law_need", "_law_told"]
theorem sc_l_values : FnScope N_l_values ["_law_own", "_law_name"] (defScope s_l_values) := C8.fnScope_by (by decide +kernel)
def c_l_values : CS := sSeq (sOwn 2 (cLst (aNil)))
  (sSeq (sFor (wTup (cOp fIx (cCall 2 g_l_job (aCons (cDGet (cVar 0) (cC (.str "book"))) (aCons (cVar 1) (aNil)))) (cC (.int 2)))) (gN 3) (sSeq (sSet 4 (cCall 2 g_l_outcome_of (aCons (cVar 0) (aCons (cVar 3) (aNil)))))
  (sApp 2 (cTup (aCons (cVar 3) (aCons (cIf (cAnd (cTest (cOp fIsNot (cVar 4) (cC .non))) (cTest (cOp fEq (cOp fIx (cVar 4) (cC (.int 0))) (cC (.str "done"))))) (cOp fIx (cVar 4) (cC (.int 2))) (cC .non)) (aNil)))))))
  (sRet (cTupO 2)))
def g_l_values : List D → (D → Prop) → Prop := fun ds Q => c_l_values (env0 N_l_values ds) (fun _ => Q .non) Q
theorem w_l_values {P : Program} {w : World} {K : PySem.W.Frag} {mg : Str → Option Value} {base : Heap} {f : Addr} {fd : FuncData} (B : Bl mg) (h_l_outcome_of : Fn P w K mg base 2 2 "_law_outcome_of" g_l_outcome_of) (h_l_job : Fn P w K mg base 1 2 "_law_job" g_l_job) (F : FunD K "_law_values" "_law_values" (defArgs s_l_values) (defBody s_l_values) (defScope s_l_values) [] [] f fd) (hm : mg "_law_values" = some (.ref f)) : Fn P w K mg base 3 2 "_law_values" g_l_values := by
  refine ⟨f, fd, _, fn_d F sc_l_values rfl (fun cdv A outer s H E hr => ?_) (fun _ _ _ h => h), hm, F.kp, F.bindsN fun _ _ _ _ _ _ us hl => match us, hl with | [_, _], _ => rfl⟩
  have nd := sc_l_values.nd
  have hu1 := room_u1 hr
  have hu64 := room_u64 hr
  exact ds_cons (ds_own nd (df_lst (dl_nil)))
    (ds_cons (ds_for (is := [3]) rfl (di_tup (de_ix (de_callN h_l_job (hr.mono (by decide)) rfl (dl_cons (de_dget hu1 (dv 0) (de_str)) (dl_cons (dv 1) (dl_nil)))) (de_int))) (dg_name (pg_name nd rfl (by first | exact .inl rfl | exact .inr rfl))) (ds_cons (ds_set nd (de_callN h_l_outcome_of (hr.mono (by decide)) rfl (dl_cons (dv 0) (dl_cons (dv 3) (dl_nil)))))
    (ds_one (ds_app (pv 2) (de_tup (dl_cons (dv 3) (dl_cons (de_if (dt_w (dw_and (dt_isnot (dv 4) (de_non)) (dw_and1 (dt_eq hu64 (de_ix (dv 4) (de_int)) (de_str))))) (de_ix (dv 4) (de_int)) (de_non)) (dl_nil))))))))
    (ds_one (ds_ret (de_tupO rfl B.tuple_ (pv 2)))))

/-! law changed -/
abbrev s_l_changed : Stmt := top 44
abbrev N_l_changed : List Str := ["_law_own", "_law_changes", "_law_later", "_law_field"]
theorem sc_l_changed : FnScope N_l_changed ["_law_own", "_law_changes"] (defScope s_l_changed) := C8.fnScope_by (by decide +kernel)
def c_l_changed : CS := sSeq (sOwn 2 (cCB fDict (aCons (cOp fAdd (cComp (wKeys (cPv 0)) [3] (gN 3) (bYes) (cTup (aCons (cVar 3) (aCons (cDGet (cVar 0) (cVar 3)) (aNil))))) (cLst (aCons (cTup (aCons (cC (.str "moment")) (aCons (cOp fAdd (cDGet (cVar 0) (cC (.str "moment"))) (cC (.int 1))) (aNil)))) (aNil)))) (aNil))))
  (sSeq (sUpd 2 (cVar 1))
  (sRetO 2))
def g_l_changed : List D → (D → Prop) → Prop := fun ds Q => c_l_changed (env0 N_l_changed ds) (fun _ => Q .non) Q
theorem w_l_changed {P : Program} {w : World} {K : PySem.W.Frag} {mg : Str → Option Value} {base : Heap} {f : Addr} {fd : FuncData} (B : Bl mg) (F : FunD K "_law_changed" "_law_changed" (defArgs s_l_changed) (defBody s_l_changed) (defScope s_l_changed) [] [] f fd) (hm : mg "_law_changed" = some (.ref f)) : Fn P w K mg base 1 2 "_law_changed" g_l_changed := by
  refine ⟨f, fd, _, fn_d F sc_l_changed rfl (fun cdv A outer s H E hr => ?_) (fun _ _ _ h => h), hm, F.kp, F.bindsN fun _ _ _ _ _ _ us hl => match us, hl with | [_, _], _ => rfl⟩
  have nd := sc_l_changed.nd
  have hu1 := room_u1 hr
  have hu64 := room_u64 hr
  exact ds_cons (ds_own nd (df_dict rfl rfl B.dict_ (dl_cons (de_add (de_of (df_compK (own := [("_law_field", 3)]) (is := [3]) rfl nd (pv 0) path_v (blkOk_by (by kernel_rfl)) (fun _ _ _ _ _ => dg_name (pg_name nd rfl (by first | exact .inl rfl | exact .inr rfl))) (fun _ _ _ _ _ => dts_nil) (fun _ _ _ _ _ => de_tup (dl_cons (dv 3) (dl_cons (de_dget hu1 (dv 0) (dv 3)) (dl_nil)))))) (de_of (df_lst (dl_cons (de_tup (dl_cons (de_str) (dl_cons (de_add (de_dget hu1 (dv 0) (de_str)) (de_int)) (dl_nil)))) (dl_nil))))) (dl_nil))))
    (ds_cons (ds_upd (pv 2) (dv 1))
    (ds_one (ds_retO (pv 2))))

/-! law with -/
abbrev s_l_with : Stmt := top 45
abbrev N_l_with : List Str := ["_law_told", "_law_name", "_law_what", "_law_found", "_law_one"]
theorem sc_l_with : FnScope N_l_with ["_law_told", "_law_name", "_law_what"] (defScope s_l_with) := C8.fnScope_by (by decide +kernel)
def c_l_with : CS := sSeq (sOwn 3 (cCB fDict (aCons (cComp (wKeys (cPv 0)) [4] (gN 4) (cTest (cOp fNe (cVar 4) (cVar 1))) (cTup (aCons (cVar 4) (aCons (cDGet (cVar 0) (cVar 4)) (aNil))))) (aNil))))
  (sSeq (sIf (cTest (cOp fIsNot (cVar 2) (cC .non))) (sPut 3 (cVar 1) (cVar 2)) (sNil))
  (sRetO 3))
def g_l_with : List D → (D → Prop) → Prop := fun ds Q => c_l_with (env0 N_l_with ds) (fun _ => Q .non) Q
theorem w_l_with {P : Program} {w : World} {K : PySem.W.Frag} {mg : Str → Option Value} {base : Heap} {f : Addr} {fd : FuncData} (B : Bl mg) (F : FunD K "_law_with" "_law_with" (defArgs s_l_with) (defBody s_l_with) (defScope s_l_with) [] [] f fd) (hm : mg "_law_with" = some (.ref f)) : Fn P w K mg base 1 3 "_law_with" g_l_with := by
  refine ⟨f, fd, _, fn_d F sc_l_with rfl (fun cdv A outer s H E hr => ?_) (fun _ _ _ h => h), hm, F.kp, F.bindsN fun _ _ _ _ _ _ us hl => match us, hl with | [_, _, _], _ => rfl⟩
  have nd := sc_l_with.nd
  have hu1 := room_u1 hr
  have hu64 := room_u64 hr
  exact ds_cons (ds_own nd (df_dict rfl rfl B.dict_ (dl_cons (de_of (df_compK (own := [("_law_one", 4)]) (is := [4]) rfl nd (pv 0) path_v (blkOk_by (by kernel_rfl)) (fun _ _ _ _ _ => dg_name (pg_name nd rfl (by first | exact .inl rfl | exact .inr rfl))) (fun _ _ _ _ _ => dts_one (dt_ne hu64 (dv 4) (dv 1))) (fun _ _ _ _ _ => de_tup (dl_cons (dv 4) (dl_cons (de_dget hu1 (dv 0) (dv 4)) (dl_nil)))))) (dl_nil))))
    (ds_cons (ds_if (dt_isnot (dv 2) (de_non)) (ds_one (ds_put hu1 (pv 3) (dv 1) (dv 2))) (ds_nil))
    (ds_one (ds_retO (pv 3))))
end E64
namespace E64
open PySem PySem.Spec PyProof.Rows L2
/-! law by keeper -/
abbrev s_l_by_keeper : Stmt := top 46
abbrev N_l_by_keeper : List Str := ["_law_own", "_law_letter", "_law_word", "_law_epoch", "_law_name", "_law_hold", "_law_told", "_law_gone", "_law_field", "_law_one"]
theorem sc_l_by_keeper : FnScope N_l_by_keeper ["_law_own", "_law_letter"] (defScope s_l_by_keeper) := C8.fnScope_by (by decide +kernel)
def c_l_by_keeper : CS := sSeq (sPar [2, 3, 4] (aCons (cOp fIx (cVar 1) (cC (.int 0))) (aCons (cOp fIx (cVar 1) (cC (.int 1))) (aCons (cIf (cTest (cOp fGt (cCB fLen (aCons (cVar 1) (aNil))) (cC (.int 2)))) (cOp fIx (cVar 1) (cC (.int 2))) (cC .non)) (aNil)))))
  (sSeq (sSet 5 (cGetN (cDGet (cVar 0) (cC (.str "holds"))) (cVar 4) (cC .non)))
  (sSeq (sIf (cTest (cOp fEq (cVar 2) (cC (.str "grant")))) (sSeq (sIf (cOr (cTest (cOp fIs (cVar 5) (cC .non))) (cTest (cOp fNe (cSl (cVar 5) (oNone) (oSome (cC (.int 2)))) (cTup (aCons (cOp fIx (cVar 1) (cC (.int 3))) (aCons (cOp fIx (cVar 1) (cC (.int 4))) (aNil))))))) (sSeq (sIf (cOr (cTest (cOp fIsNot (cCall 2 g_l_hindered (aCons (cVar 0) (aCons (cVar 4) (aNil)))) (cC .non))) (cTest (cOp fLe (cOp fIx (cVar 1) (cC (.int 3))) (cDGet (cVar 0) (cC (.str "fence")))))) (sRet (cTup (aCons (cVar 0) (aCons (cC .non) (aNil))))) (sNil))
  (sSeq (sSet 5 (cTup (aCons (cOp fIx (cVar 1) (cC (.int 3))) (aCons (cOp fIx (cVar 1) (cC (.int 4))) (aCons (cOp fAdd (cCB fLen (aCons (cGetN (cDGet (cVar 0) (cC (.str "ends"))) (cVar 4) (cTup (aNil))) (aNil))) (cC (.int 1))) (aCons (cOp fAdd (cDGet (cVar 0) (cC (.str "moment"))) (cC (.int 1))) (aCons (cDGet (cVar 0) (cC (.str "time"))) (aNil))))))))
  (sSet 0 (cCall 2 g_l_changed (aCons (cVar 0) (aCons (cDisp [("fence", cOp fIx (cVar 1) (cC (.int 3))), ("holds", cCall 3 g_l_with (aCons (cDGet (cVar 0) (cC (.str "holds"))) (aCons (cVar 4) (aCons (cVar 5) (aNil)))))]) (aNil))))))) (sNil))
  (sRet (cTup (aCons (cVar 0) (aCons (cTup (aCons (cC (.str "granted")) (aCons (cVar 3) (aCons (cVar 4) (aCons (cOp fIx (cVar 1) (cC (.int 3))) (aCons (cOp fIx (cVar 1) (cC (.int 4))) (aCons (cOp fIx (cVar 5) (cC (.int 2))) (aCons (cCall 2 g_l_values (aCons (cVar 0) (aCons (cVar 4) (aNil)))) (aNil))))))))) (aNil)))))) (sNil))
  (sSeq (sIf (cTest (cOp fEq (cVar 2) (cC (.str "free")))) (sSeq (sIf (cAnd (cTest (cOp fIsNot (cVar 5) (cC .non))) (cTest (cOp fEq (cOp fIx (cVar 5) (cC (.int 0))) (cOp fIx (cVar 1) (cC (.int 3)))))) (sSeq (sSet 7 (cOp fAdd (cDGet (cVar 0) (cC (.str "freed"))) (cTup (aCons (cOp fAdd (cOp fAdd (cTup (aCons (cOp fIx (cVar 1) (cC (.int 3))) (aCons (cVar 4) (aNil)))) (cSl (cVar 5) (oSome (cC (.int 1))) (oNone))) (cTup (aCons (cOp fAdd (cDGet (cVar 0) (cC (.str "moment"))) (cC (.int 1))) (aNil)))) (aNil)))))
  (sSet 0 (cCall 2 g_l_changed (aCons (cVar 0) (aCons (cDisp [("holds", cCall 3 g_l_with (aCons (cDGet (cVar 0) (cC (.str "holds"))) (aCons (cVar 4) (aCons (cC .non) (aNil))))), ("freed", cCB fTuple (aCons (cCB fSorted (aCons (cVar 7) (aNil))) (aNil)))]) (aNil)))))) (sNil))
  (sRet (cTup (aCons (cVar 0) (aCons (cIf (cTest (cOp fLe (cOp fIx (cVar 1) (cC (.int 3))) (cDGet (cVar 0) (cC (.str "fence"))))) (cTup (aCons (cC (.str "freed")) (aCons (cVar 3) (aCons (cVar 4) (aCons (cOp fIx (cVar 1) (cC (.int 3))) (aNil)))))) (cC .non)) (aNil)))))) (sNil))
  (sSeq (sIf (cTest (cOp fEq (cVar 2) (cC (.str "bar")))) (sSeq (sIf (cTest (cOp fNe (cGetN (cDGet (cVar 0) (cC (.str "barred"))) (cVar 4) (cC .non)) (cOp fIx (cVar 1) (cC (.int 3))))) (sSeq (sIf (cOr (cTest (cOp fIs (cCall 2 g_l_job (aCons (cDGet (cVar 0) (cC (.str "book"))) (aCons (cVar 4) (aNil)))) (cC .non))) (cTest (cOp fNe (cCall 2 g_l_barring (aCons (cVar 0) (aCons (cVar 4) (aNil)))) (cOp fIx (cVar 1) (cC (.int 3)))))) (sRet (cTup (aCons (cVar 0) (aCons (cC .non) (aNil))))) (sNil))
  (sSet 0 (cCall 2 g_l_changed (aCons (cVar 0) (aCons (cDisp [("barred", cCall 3 g_l_with (aCons (cDGet (cVar 0) (cC (.str "barred"))) (aCons (cVar 4) (aCons (cOp fIx (cVar 1) (cC (.int 3))) (aNil)))))]) (aNil)))))) (sNil))
  (sRet (cTup (aCons (cVar 0) (aCons (cTup (aCons (cC (.str "barred")) (aCons (cVar 3) (aCons (cVar 4) (aNil))))) (aNil)))))) (sNil))
  (sSeq (sSet 6 (cComp (wTup (cTup (aCons (cC (.str "holds")) (aCons (cC (.str "ends")) (aCons (cC (.str "barred")) (aNil)))))) [8] (gN 8) (bYes) (cCB fTuple (aCons (cComp (wSeq (cCB fSorted (aCons (cCB fList (aCons (cDGet (cVar 0) (cVar 8)) (aNil))) (aNil)))) [9] (gN 9) (bYes) (cTup (aCons (cVar 9) (aCons (cDGet (cDGet (cVar 0) (cVar 8)) (cVar 9)) (aNil))))) (aNil)))))
  (sRet (cTup (aCons (cVar 0) (aCons (cOp fAdd (cTup (aCons (cC (.str "told")) (aCons (cVar 3) (aCons (cDGet (cVar 0) (cC (.str "moment"))) (aCons (cDGet (cVar 0) (cC (.str "time"))) (aCons (cDGet (cVar 0) (cC (.str "fence"))) (aNil))))))) (cCB fTuple (aCons (cVar 6) (aNil)))) (aNil))))))))))
def g_l_by_keeper : List D → (D → Prop) → Prop := fun ds Q => c_l_by_keeper (env0 N_l_by_keeper ds) (fun _ => Q .non) Q
theorem w_l_by_keeper {P : Program} {w : World} {K : PySem.W.Frag} {mg : Str → Option Value} {base : Heap} {f : Addr} {fd : FuncData} (B : Bl mg) (h_l_hindered : Fn P w K mg base 4 2 "_law_hindered" g_l_hindered) (h_l_changed : Fn P w K mg base 1 2 "_law_changed" g_l_changed) (h_l_with : Fn P w K mg base 1 3 "_law_with" g_l_with) (h_l_values : Fn P w K mg base 3 2 "_law_values" g_l_values) (h_l_barring : Fn P w K mg base 4 2 "_law_barring" g_l_barring) (h_l_job : Fn P w K mg base 1 2 "_law_job" g_l_job) (F : FunD K "_law_by_keeper" "_law_by_keeper" (defArgs s_l_by_keeper) (defBody s_l_by_keeper) (defScope s_l_by_keeper) [] [] f fd) (hm : mg "_law_by_keeper" = some (.ref f)) : Fn P w K mg base 5 2 "_law_by_keeper" g_l_by_keeper := by
  refine ⟨f, fd, _, fn_d F sc_l_by_keeper rfl (fun cdv A outer s H E hr => ?_) (fun _ _ _ h => h), hm, F.kp, F.bindsN fun _ _ _ _ _ _ us hl => match us, hl with | [_, _], _ => rfl⟩
  have nd := sc_l_by_keeper.nd
  have hu1 := room_u1 hr
  have hu64 := room_u64 hr
  exact ds_cons (ds_par3 (ps_par3 rfl nd rfl rfl rfl (by decide) (by decide) (by decide) rfl rfl rfl (dl_cons (de_ix (dv 1) (de_int)) (dl_cons (de_ix (dv 1) (de_int)) (dl_cons (de_if (dt_gt (de_len rfl B.len_ (dl_cons (dv 1) (dl_nil))) (de_int)) (de_ix (dv 1) (de_int)) (de_non)) (dl_nil)))) rfl) (fun _ _ _ h => h))
    (ds_cons (ds_set nd (de_getN hu1 (de_dget hu1 (dv 0) (de_str)) (dv 4) (de_non)))
    (ds_cons (ds_if (dt_eq hu64 (dv 2) (de_str)) (ds_cons (ds_if (dt_w (dw_or (dt_is (dv 5) (de_non)) (dw_or1 (dt_ne hu64 (de_sl (dv 5) (do_none) (do_some (de_int))) (de_tup (dl_cons (de_ix (dv 1) (de_int)) (dl_cons (de_ix (dv 1) (de_int)) (dl_nil)))))))) (ds_cons (ds_if (dt_w (dw_or (dt_isnot (de_callN h_l_hindered (hr.mono (by decide)) rfl (dl_cons (dv 0) (dl_cons (dv 4) (dl_nil)))) (de_non)) (dw_or1 (dt_le (de_ix (dv 1) (de_int)) (de_dget hu1 (dv 0) (de_str)))))) (ds_one (ds_ret (de_tup (dl_cons (dv 0) (dl_cons (de_non) (dl_nil)))))) (ds_nil))
    (ds_cons (ds_set nd (de_tup (dl_cons (de_ix (dv 1) (de_int)) (dl_cons (de_ix (dv 1) (de_int)) (dl_cons (de_add (de_len rfl B.len_ (dl_cons (de_getN hu1 (de_dget hu1 (dv 0) (de_str)) (dv 4) (de_tup (dl_nil))) (dl_nil))) (de_int)) (dl_cons (de_add (de_dget hu1 (dv 0) (de_str)) (de_int)) (dl_cons (de_dget hu1 (dv 0) (de_str)) (dl_nil))))))))
    (ds_one (ds_set nd (de_callN h_l_changed (hr.mono (by decide)) rfl (dl_cons (dv 0) (dl_cons (de_of (df_disp (dps_cons (de_ix (dv 1) (de_int)) (dps_cons (de_callN h_l_with (hr.mono (by decide)) rfl (dl_cons (de_dget hu1 (dv 0) (de_str)) (dl_cons (dv 4) (dl_cons (dv 5) (dl_nil))))) (dps_nil))))) (dl_nil)))))))) (ds_nil))
    (ds_one (ds_ret (de_tup (dl_cons (dv 0) (dl_cons (de_tup (dl_cons (de_str) (dl_cons (dv 3) (dl_cons (dv 4) (dl_cons (de_ix (dv 1) (de_int)) (dl_cons (de_ix (dv 1) (de_int)) (dl_cons (de_ix (dv 5) (de_int)) (dl_cons (de_callN h_l_values (hr.mono (by decide)) rfl (dl_cons (dv 0) (dl_cons (dv 4) (dl_nil)))) (dl_nil))))))))) (dl_nil))))))) (ds_nil))
    (ds_cons (ds_if (dt_eq hu64 (dv 2) (de_str)) (ds_cons (ds_if (dt_w (dw_and (dt_isnot (dv 5) (de_non)) (dw_and1 (dt_eq hu64 (de_ix (dv 5) (de_int)) (de_ix (dv 1) (de_int)))))) (ds_cons (ds_set nd (de_add (de_dget hu1 (dv 0) (de_str)) (de_tup (dl_cons (de_add (de_add (de_tup (dl_cons (de_ix (dv 1) (de_int)) (dl_cons (dv 4) (dl_nil)))) (de_sl (dv 5) (do_some (de_int)) (do_none))) (de_tup (dl_cons (de_add (de_dget hu1 (dv 0) (de_str)) (de_int)) (dl_nil)))) (dl_nil)))))
    (ds_one (ds_set nd (de_callN h_l_changed (hr.mono (by decide)) rfl (dl_cons (dv 0) (dl_cons (de_of (df_disp (dps_cons (de_callN h_l_with (hr.mono (by decide)) rfl (dl_cons (de_dget hu1 (dv 0) (de_str)) (dl_cons (dv 4) (dl_cons (de_non) (dl_nil))))) (dps_cons (de_tuple rfl B.tuple_ (dl_cons (de_sorted rfl B.sorted_ (dl_cons (dv 7) (dl_nil))) (dl_nil))) (dps_nil))))) (dl_nil))))))) (ds_nil))
    (ds_one (ds_ret (de_tup (dl_cons (dv 0) (dl_cons (de_if (dt_le (de_ix (dv 1) (de_int)) (de_dget hu1 (dv 0) (de_str))) (de_tup (dl_cons (de_str) (dl_cons (dv 3) (dl_cons (dv 4) (dl_cons (de_ix (dv 1) (de_int)) (dl_nil)))))) (de_non)) (dl_nil))))))) (ds_nil))
    (ds_cons (ds_if (dt_eq hu64 (dv 2) (de_str)) (ds_cons (ds_if (dt_ne hu64 (de_getN hu1 (de_dget hu1 (dv 0) (de_str)) (dv 4) (de_non)) (de_ix (dv 1) (de_int))) (ds_cons (ds_if (dt_w (dw_or (dt_is (de_callN h_l_job (hr.mono (by decide)) rfl (dl_cons (de_dget hu1 (dv 0) (de_str)) (dl_cons (dv 4) (dl_nil)))) (de_non)) (dw_or1 (dt_ne hu64 (de_callN h_l_barring (hr.mono (by decide)) rfl (dl_cons (dv 0) (dl_cons (dv 4) (dl_nil)))) (de_ix (dv 1) (de_int)))))) (ds_one (ds_ret (de_tup (dl_cons (dv 0) (dl_cons (de_non) (dl_nil)))))) (ds_nil))
    (ds_one (ds_set nd (de_callN h_l_changed (hr.mono (by decide)) rfl (dl_cons (dv 0) (dl_cons (de_of (df_disp (dps_cons (de_callN h_l_with (hr.mono (by decide)) rfl (dl_cons (de_dget hu1 (dv 0) (de_str)) (dl_cons (dv 4) (dl_cons (de_ix (dv 1) (de_int)) (dl_nil))))) (dps_nil)))) (dl_nil))))))) (ds_nil))
    (ds_one (ds_ret (de_tup (dl_cons (dv 0) (dl_cons (de_tup (dl_cons (de_str) (dl_cons (dv 3) (dl_cons (dv 4) (dl_nil))))) (dl_nil))))))) (ds_nil))
    (ds_cons (ps_comp (own := [("_law_field", 8)]) (is := [8]) rfl nd (di_tup (de_tup (dl_cons (de_str) (dl_cons (de_str) (dl_cons (de_str) (dl_nil)))))) (blkOk_by (by kernel_rfl)) (fun _ _ _ _ _ => dg_name (pg_name nd rfl (by first | exact .inl rfl | exact .inr rfl))) (fun _ _ _ _ _ => dts_nil) (fun _ _ _ _ _ => de_tuple rfl B.tuple_ (dl_cons (de_of (df_comp (own := [("_law_one", 9)]) (is := [9]) rfl nd (di_list (de_sorted rfl B.sorted_ (dl_cons (de_list rfl rfl B.list_ (dl_cons (de_dget hu1 (dv 0) (dv 8)) (dl_nil))) (dl_nil)))) (blkOk_by (by kernel_rfl)) (fun _ _ _ _ _ => dg_name (pg_name nd rfl (by first | exact .inl rfl | exact .inr rfl))) (fun _ _ _ _ _ => dts_nil) (fun _ _ _ _ _ => de_tup (dl_cons (dv 9) (dl_cons (de_dget hu1 (de_dget hu1 (dv 0) (dv 8)) (dv 9)) (dl_nil)))))) (dl_nil))))
    (ds_one (ds_ret (de_tup (dl_cons (dv 0) (dl_cons (de_add (de_tup (dl_cons (de_str) (dl_cons (dv 3) (dl_cons (de_dget hu1 (dv 0) (de_str)) (dl_cons (de_dget hu1 (dv 0) (de_str)) (dl_cons (de_dget hu1 (dv 0) (de_str)) (dl_nil))))))) (de_tuple rfl B.tuple_ (dl_cons (dv 6) (dl_nil)))) (dl_nil)))))))))))

/-! law heard -/
abbrev s_l_heard : Stmt := top 47
abbrev N_l_heard : List Str := ["_law_own", "_law_letter", "_law_word", "_law_machine", "_law_name", "_law_fence", "_law_attempt", "_law_outcome", "_law_hold", "_law_ends", "_law_later", "_law_answer", "_law_end", "_law_changes"]
theorem sc_l_heard : FnScope N_l_heard ["_law_own", "_law_letter"] (defScope s_l_heard) := C8.fnScope_by (by decide +kernel)
def c_l_heard : CS := sSeq (sIf (cTest (cOp fEq (cOp fIx (cVar 1) (cC (.int 0))) (cC (.str "take")))) (sSeq (sIf (cTest (cOp fGt (cOp fIx (cVar 1) (cC (.int 1))) (cDGet (cVar 0) (cC (.str "epoch"))))) (sSet 0 (cCall 2 g_l_changed (aCons (cVar 0) (aCons (cDisp [("epoch", cOp fIx (cVar 1) (cC (.int 1)))]) (aNil))))) (sNil))
  (sRet (cTup (aCons (cVar 0) (aCons (cIf (cTest (cOp fEq (cOp fIx (cVar 1) (cC (.int 1))) (cDGet (cVar 0) (cC (.str "epoch"))))) (cTup (aCons (cC (.str "taken")) (aCons (cOp fIx (cVar 1) (cC (.int 1))) (aNil)))) (cTup (aCons (cC (.str "no")) (aCons (cDGet (cVar 0) (cC (.str "epoch"))) (aCons (cVar 1) (aNil)))))) (aNil)))))) (sNil))
  (sSeq (sIf (cTest (cOp fNe (cOp fIx (cVar 1) (cC (.int 0))) (cC (.str "end")))) (sSeq (sAsg (cIf (cTest (cOp fEq (cOp fIx (cVar 1) (cC (.int 1))) (cDGet (cVar 0) (cC (.str "epoch"))))) (cCall 2 g_l_by_keeper (aCons (cVar 0) (aCons (cVar 1) (aNil)))) (cTup (aCons (cVar 0) (aCons (cC .non) (aNil))))) (gT [10, 11]))
  (sRet (cTup (aCons (cVar 10) (aCons (cIf (cTest (cOp fIsNot (cVar 11) (cC .non))) (cVar 11) (cTup (aCons (cC (.str "no")) (aCons (cDGet (cVar 0) (cC (.str "epoch"))) (aCons (cVar 1) (aNil)))))) (aNil)))))) (sNil))
  (sSeq (sAsg (cVar 1) (gT [2, 3, 4, 5, 6, 7]))
  (sSeq (sPar [8, 9] (aCons (cGetN (cDGet (cVar 0) (cC (.str "holds"))) (cVar 4) (cC .non)) (aCons (cGetN (cDGet (cVar 0) (cC (.str "ends"))) (cVar 4) (cTup (aNil))) (aNil))))
  (sSeq (sIf (cAnd (cTest (cOp fIsNot (cVar 8) (cC .non))) (cTest (cOp fEq (cSl (cVar 8) (oNone) (oSome (cC (.int 3)))) (cTup (aCons (cVar 5) (aCons (cVar 3) (aCons (cVar 6) (aNil)))))))) (sSeq (sSet 12 (cTup (aCons (cOp fIx (cVar 7) (cC (.int 0))) (aCons (cVar 5) (aCons (cOp fIx (cVar 8) (cC (.int 3))) (aCons (cOp fIx (cVar 8) (cC (.int 4))) (aCons (cOp fAdd (cDGet (cVar 0) (cC (.str "moment"))) (cC (.int 1))) (aCons (cIf (cTest (cOp fEq (cOp fIx (cVar 7) (cC (.int 0))) (cC (.str "done")))) (cOp fIx (cVar 7) (cC (.int 1))) (cC .non)) (aNil)))))))))
  (sSeq (sSet 13 (cDisp [("holds", cCall 3 g_l_with (aCons (cDGet (cVar 0) (cC (.str "holds"))) (aCons (cVar 4) (aCons (cC .non) (aNil))))), ("ends", cCall 3 g_l_with (aCons (cDGet (cVar 0) (cC (.str "ends"))) (aCons (cVar 4) (aCons (cOp fAdd (cVar 9) (cTup (aCons (cVar 12) (aNil)))) (aNil)))))]))
  (sRet (cTup (aCons (cCall 2 g_l_changed (aCons (cVar 0) (aCons (cVar 13) (aNil)))) (aCons (cTup (aCons (cC (.str "ended")) (aCons (cVar 3) (aCons (cVar 4) (aCons (cVar 5) (aNil)))))) (aNil))))))) (sNil))
  (sRet (cTup (aCons (cVar 0) (aCons (cTup (aCons (cIf (cTest (cOp fIn (cVar 5) (cComp (wTup (cVar 9)) [12] (gN 12) (bYes) (cOp fIx (cVar 12) (cC (.int 1)))))) (cC (.str "ended")) (cC (.str "refused"))) (aCons (cVar 3) (aCons (cVar 4) (aCons (cVar 5) (aNil)))))) (aNil)))))))))
def g_l_heard : List D → (D → Prop) → Prop := fun ds Q => c_l_heard (env0 N_l_heard ds) (fun _ => Q .non) Q
theorem w_l_heard {P : Program} {w : World} {K : PySem.W.Frag} {mg : Str → Option Value} {base : Heap} {f : Addr} {fd : FuncData} (B : Bl mg) (h_l_changed : Fn P w K mg base 1 2 "_law_changed" g_l_changed) (h_l_by_keeper : Fn P w K mg base 5 2 "_law_by_keeper" g_l_by_keeper) (h_l_with : Fn P w K mg base 1 3 "_law_with" g_l_with) (F : FunD K "_law_heard" "_law_heard" (defArgs s_l_heard) (defBody s_l_heard) (defScope s_l_heard) [] [] f fd) (hm : mg "_law_heard" = some (.ref f)) : Fn P w K mg base 6 2 "_law_heard" g_l_heard := by
  refine ⟨f, fd, _, fn_d F sc_l_heard rfl (fun cdv A outer s H E hr => ?_) (fun _ _ _ h => h), hm, F.kp, F.bindsN fun _ _ _ _ _ _ us hl => match us, hl with | [_, _], _ => rfl⟩
  have nd := sc_l_heard.nd
  have hu1 := room_u1 hr
  have hu64 := room_u64 hr
  exact ds_cons (ds_if (dt_eq hu64 (de_ix (dv 1) (de_int)) (de_str)) (ds_cons (ds_if (dt_gt (de_ix (dv 1) (de_int)) (de_dget hu1 (dv 0) (de_str))) (ds_one (ds_set nd (de_callN h_l_changed (hr.mono (by decide)) rfl (dl_cons (dv 0) (dl_cons (de_of (df_disp (dps_cons (de_ix (dv 1) (de_int)) (dps_nil)))) (dl_nil)))))) (ds_nil))
    (ds_one (ds_ret (de_tup (dl_cons (dv 0) (dl_cons (de_if (dt_eq hu64 (de_ix (dv 1) (de_int)) (de_dget hu1 (dv 0) (de_str))) (de_tup (dl_cons (de_str) (dl_cons (de_ix (dv 1) (de_int)) (dl_nil)))) (de_tup (dl_cons (de_str) (dl_cons (de_dget hu1 (dv 0) (de_str)) (dl_cons (dv 1) (dl_nil)))))) (dl_nil))))))) (ds_nil))
    (ds_cons (ds_if (dt_ne hu64 (de_ix (dv 1) (de_int)) (de_str)) (ds_cons (ds_asg (de_if (dt_eq hu64 (de_ix (dv 1) (de_int)) (de_dget hu1 (dv 0) (de_str))) (de_callN h_l_by_keeper (hr.mono (by decide)) rfl (dl_cons (dv 0) (dl_cons (dv 1) (dl_nil)))) (de_tup (dl_cons (dv 0) (dl_cons (de_non) (dl_nil))))) (dg_tup (is := [10, 11]) rfl (pgs_cons (pg_name nd rfl (by first | exact .inl rfl | exact .inr rfl)) (pgs_cons (pg_name nd rfl (by first | exact .inl rfl | exact .inr rfl)) (pgs_nil)))))
    (ds_one (ds_ret (de_tup (dl_cons (dv 10) (dl_cons (de_if (dt_isnot (dv 11) (de_non)) (dv 11) (de_tup (dl_cons (de_str) (dl_cons (de_dget hu1 (dv 0) (de_str)) (dl_cons (dv 1) (dl_nil)))))) (dl_nil))))))) (ds_nil))
    (ds_cons (ds_asg (dv 1) (dg_tup (is := [2, 3, 4, 5, 6, 7]) rfl (pgs_cons (pg_name nd rfl (by first | exact .inl rfl | exact .inr rfl)) (pgs_cons (pg_name nd rfl (by first | exact .inl rfl | exact .inr rfl)) (pgs_cons (pg_name nd rfl (by first | exact .inl rfl | exact .inr rfl)) (pgs_cons (pg_name nd rfl (by first | exact .inl rfl | exact .inr rfl)) (pgs_cons (pg_name nd rfl (by first | exact .inl rfl | exact .inr rfl)) (pgs_cons (pg_name nd rfl (by first | exact .inl rfl | exact .inr rfl)) (pgs_nil)))))))))
    (ds_cons (ds_par2 (ps_par rfl nd rfl rfl (by decide) rfl rfl (dl_cons (de_getN hu1 (de_dget hu1 (dv 0) (de_str)) (dv 4) (de_non)) (dl_cons (de_getN hu1 (de_dget hu1 (dv 0) (de_str)) (dv 4) (de_tup (dl_nil))) (dl_nil))) rfl) (fun _ _ _ h => h))
    (ds_cons (ds_if (dt_w (dw_and (dt_isnot (dv 8) (de_non)) (dw_and1 (dt_eq hu64 (de_sl (dv 8) (do_none) (do_some (de_int))) (de_tup (dl_cons (dv 5) (dl_cons (dv 3) (dl_cons (dv 6) (dl_nil))))))))) (ds_cons (ds_set nd (de_tup (dl_cons (de_ix (dv 7) (de_int)) (dl_cons (dv 5) (dl_cons (de_ix (dv 8) (de_int)) (dl_cons (de_ix (dv 8) (de_int)) (dl_cons (de_add (de_dget hu1 (dv 0) (de_str)) (de_int)) (dl_cons (de_if (dt_eq hu64 (de_ix (dv 7) (de_int)) (de_str)) (de_ix (dv 7) (de_int)) (de_non)) (dl_nil)))))))))
    (ds_cons (ds_set nd (de_of (df_disp (dps_cons (de_callN h_l_with (hr.mono (by decide)) rfl (dl_cons (de_dget hu1 (dv 0) (de_str)) (dl_cons (dv 4) (dl_cons (de_non) (dl_nil))))) (dps_cons (de_callN h_l_with (hr.mono (by decide)) rfl (dl_cons (de_dget hu1 (dv 0) (de_str)) (dl_cons (dv 4) (dl_cons (de_add (dv 9) (de_tup (dl_cons (dv 12) (dl_nil)))) (dl_nil))))) (dps_nil))))))
    (ds_one (ds_ret (de_tup (dl_cons (de_callN h_l_changed (hr.mono (by decide)) rfl (dl_cons (dv 0) (dl_cons (dv 13) (dl_nil)))) (dl_cons (de_tup (dl_cons (de_str) (dl_cons (dv 3) (dl_cons (dv 4) (dl_cons (dv 5) (dl_nil)))))) (dl_nil)))))))) (ds_nil))
    (ds_one (ds_ret (de_tup (dl_cons (dv 0) (dl_cons (de_tup (dl_cons (de_if (dt_in (dv 5) (de_of (df_comp (own := [("_law_end", 12)]) (is := [12]) rfl nd (di_tup (dv 9)) (blkOk_by (by kernel_rfl)) (fun _ _ _ _ _ => dg_name (pg_name nd rfl (by first | exact .inl rfl | exact .inr rfl))) (fun _ _ _ _ _ => dts_nil) (fun _ _ _ _ _ => de_ix (dv 12) (de_int))))) (de_str) (de_str)) (dl_cons (dv 3) (dl_cons (dv 4) (dl_cons (dv 5) (dl_nil)))))) (dl_nil))))))))))

/-! law of told -/
abbrev s_l_of_told : Stmt := top 49
abbrev N_l_of_told : List Str := ["_law_book", "_law_told", "_law_word", "_law_epoch", "_law_moment", "_law_time", "_law_fence", "_law_holds", "_law_ends", "_law_barred", "_law_own"]
theorem sc_l_of_told : FnScope N_l_of_told ["_law_book", "_law_told"] (defScope s_l_of_told) := C8.fnScope_by (by decide +kernel)
def c_l_of_told : CS := sSeq (sAsg (cVar 1) (gT [2, 3, 4, 5, 6, 7, 8, 9]))
  (sSeq (sOwn 10 (cDisp [("book", cVar 0), ("time", cVar 5), ("epoch", cVar 3), ("moment", cVar 4), ("fence", cVar 6), ("freed", cTup (aNil))]))
  (sSeq (sUpd 10 (cDisp [("holds", cCB fDict (aCons (cVar 7) (aNil))), ("ends", cCB fDict (aCons (cVar 8) (aNil))), ("barred", cCB fDict (aCons (cVar 9) (aNil)))]))
  (sRetO 10)))
def g_l_of_told : List D → (D → Prop) → Prop := fun ds Q => c_l_of_told (env0 N_l_of_told ds) (fun _ => Q .non) Q
theorem w_l_of_told {P : Program} {w : World} {K : PySem.W.Frag} {mg : Str → Option Value} {base : Heap} {f : Addr} {fd : FuncData} (B : Bl mg) (F : FunD K "_law_of_told" "_law_of_told" (defArgs s_l_of_told) (defBody s_l_of_told) (defScope s_l_of_told) [] [] f fd) (hm : mg "_law_of_told" = some (.ref f)) : Fn P w K mg base 1 2 "_law_of_told" g_l_of_told := by
  refine ⟨f, fd, _, fn_d F sc_l_of_told rfl (fun cdv A outer s H E hr => ?_) (fun _ _ _ h => h), hm, F.kp, F.bindsN fun _ _ _ _ _ _ us hl => match us, hl with | [_, _], _ => rfl⟩
  have nd := sc_l_of_told.nd
  have hu1 := room_u1 hr
  have hu64 := room_u64 hr
  exact ds_cons (ds_asg (dv 1) (dg_tup (is := [2, 3, 4, 5, 6, 7, 8, 9]) rfl (pgs_cons (pg_name nd rfl (by first | exact .inl rfl | exact .inr rfl)) (pgs_cons (pg_name nd rfl (by first | exact .inl rfl | exact .inr rfl)) (pgs_cons (pg_name nd rfl (by first | exact .inl rfl | exact .inr rfl)) (pgs_cons (pg_name nd rfl (by first | exact .inl rfl | exact .inr rfl)) (pgs_cons (pg_name nd rfl (by first | exact .inl rfl | exact .inr rfl)) (pgs_cons (pg_name nd rfl (by first | exact .inl rfl | exact .inr rfl)) (pgs_cons (pg_name nd rfl (by first | exact .inl rfl | exact .inr rfl)) (pgs_cons (pg_name nd rfl (by first | exact .inl rfl | exact .inr rfl)) (pgs_nil)))))))))))
    (ds_cons (ds_own nd (df_disp (dps_cons (dv 0) (dps_cons (dv 5) (dps_cons (dv 3) (dps_cons (dv 4) (dps_cons (dv 6) (dps_cons (de_tup (dl_nil)) (dps_nil)))))))))
    (ds_cons (ds_upd (pv 10) (de_of (df_disp (dps_cons (de_of (df_dict rfl rfl B.dict_ (dl_cons (dv 7) (dl_nil)))) (dps_cons (de_of (df_dict rfl rfl B.dict_ (dl_cons (dv 8) (dl_nil)))) (dps_cons (de_of (df_dict rfl rfl B.dict_ (dl_cons (dv 9) (dl_nil)))) (dps_nil)))))))
    (ds_one (ds_retO (pv 10)))))
end E64
/-! any order -/
namespace E64
open PySem PySem.Spec PyProof.Rows L2
abbrev rList1 (K : PySem.W.Frag) : List V → Hp → VK → Prop := fun xs H Q => ∃ p ys, xs = [.ref p] ∧ (SqL K H p ys ∨ SqT K H p ys) ∧ ∀ l, H l = none → Q (.ref l) (upd H l (.lst ys))
abbrev N_l_any_order : List Str := ["_law_source", "_law_things", "_law_others", "_law_lap"]
abbrev s_l_any_order : Stmt := top 32
theorem sc_l_any_order : FnScope N_l_any_order ["_law_source", "_law_things"] (defScope s_l_any_order) := C8.fnScope_by (by decide +kernel)
def t_any (K : PySem.W.Frag) : TS := tSeq (tAsg (tCall1 (rList1 K) (tVar 1)) (gName 2))
  (tRet (tLc (iRng1 (tCons (tCall1 (rLen1 K) (tVar 2)) tNil)) (gName 3) tYes (tBM K "list" rPopAt (tVar 2) (tCons (tCall (spD K 2 g_l_pick) [] E0 (tCons (tVar 0) (tCons (tCall1 (rLen1 K) (tVar 2)) tNil))) tNil)) [3]))
section
variable {P : Program} {w : World} {K : PySem.W.Frag} {mg : Str → Option Value} {base : Heap} {f : Addr} {fd : FuncData}
theorem pe_fn {X : Cx} {k n : Nat} {x : Str} {p pos : Pos} {e : Expr} {es : List Expr} {g : List D → (D → Prop) → Prop} {t : TA} (c : Fn X.prog X.w X.K X.mg X.base k n x g) (hr : Room k X.A) (hg : Gl X x) (ha : PA X (e :: es) t) (hdb : (x == ("__debug__" : Str)) = false := by decide)
    (he : starEach (e :: es) X.env = (false, eval e X.env) :: starEach es X.env := by rfl) (hpl : (backTo pos (starEach es X.env)).any (·.1) = false := by rfl) : PE X (.Call (.Name x p) (e :: es) [] pos) (tCall (spD X.K n g) [] E0 t) := by
  obtain ⟨f, fd, ps, F, hm, kp, hb⟩ := c.ex
  exact pe_call (E := E0) F hr hg hm kp hb .nil pass0 ha hdb he hpl
theorem pe_len1 {X : Cx} {e : Expr} {t : TE} {p pos : Pos} (hg : Gl X "len") (hm : X.mg "len" = none) (h : PE X e t) (hs : starEach [e] X.env = (false, eval e X.env) :: starEach [] X.env := by rfl) : PE X (.Call (.Name "len" p) [e] [] pos) (tCall1 (rLen1 X.K) t) :=
  pe_callB call_len_seq hg hm PySem.boot_len (pa_cons h pa_nil hs) (by decide) (by decide) hs rfl
theorem pe_int1 {X : Cx} {e : Expr} {t : TE} {p pos : Pos} (hg : Gl X "int") (hm : X.mg "int" = none) (h : PE X e t) (hs : starEach [e] X.env = (false, eval e X.env) :: starEach [] X.env := by rfl) : PE X (.Call (.Name "int" p) [e] [] pos) (tCall1 rInt1 t) :=
  pe_callTy call_int1 hg hm (by decide +kernel) (pa_cons h pa_nil hs) (by decide) (by decide) hs rfl
theorem body_any (B : Bl mg) (h_pick : Fn P w K mg base 1 2 "_law_pick" g_l_pick) (cdv : Value) (A : Around) (outer : List PySem.Env) (s : Shared) (H : Hp) (E : XK) (hr : Room 1 (A.deeper (envOfC "_law_any_order" (defScope s_l_any_order) s.heap.objs.size f cdv))) :
    PSs (cxOf CX0 P w K mg base N_l_any_order "_law_any_order" (defScope s_l_any_order) f cdv A outer s H E).nox (defBody s_l_any_order) (t_any K) := by
  have nd := sc_l_any_order.nd
  exact pss_cons (ps_asg (pe_callTy call_list_of rfl B.list_ (by decide +kernel) (pa_cons (pv 1) pa_nil rfl) (by decide) (by decide) rfl rfl) (pg_name nd rfl (.inr rfl)))
    (pss_one (ps_ret (pe_lc (own := [("_law_lap", 3)]) (g := gName 3) (tt := tYes) rfl nd (pi_range1 rfl B.range_ (pa_cons (pe_len1 rfl B.len_ (pv 2)) pa_nil rfl)) (blkOk_by (by kernel_rfl)) (fun _ _ _ _ _ => pg_name nd rfl (.inl rfl)) (fun _ _ _ _ _ => pts_nil)
      (fun _ _ _ _ _ => pe_bm F.plainAttrs_list F.slot_list_pop F.type_list_pop mt_popAt (pv 2) (pa_cons (pe_fn h_pick hr rfl (pa_cons (pv 0) (pa_cons (pe_len1 rfl B.len_ (pv 2)) pa_nil rfl) rfl)) pa_nil rfl)))))
end
section
variable {K : PySem.W.Frag}
theorem RepL.erase {S : Sa} {R : Hp} : ∀ {vs : List V} {ds : List D} (n : Nat), RepL K S R vs ds → RepL K S R (vs.eraseIdx n) (ds.eraseIdx n)
  | _, _, _, .nil => .nil
  | _, _, 0, .cons _ r => r
  | _, _, n + 1, .cons h r => .cons h (RepL.erase n r)
theorem perm_erase {α : Type} : ∀ (l : List α) (i : Nat) (x : α), l[i]? = some x → (x :: l.eraseIdx i).Perm l
  | [], _, _, h => by simp at h
  | y :: l, 0, x, h => by simp at h; subst h; exact List.Perm.refl _
  | y :: l, i + 1, x, h => by
    have ih := perm_erase l i x (by simpa using h)
    exact (List.Perm.swap y x _).trans (ih.cons y)
theorem pure_any (vs : List V) (H : Hp) (Q : VK) (E : XK) (h : spD K 2 g_l_any_order vs H Q E) : t_any K { nx := fun _ H' => Q .non H', rt := Q } (L2.start N_l_any_order vs) H := by
  obtain ⟨S, R, ds, Qd, wd, r, hl, hf, k⟩ := h
  obtain ⟨es, rfl, hlen, hQ⟩ : ∃ es, ds = [.src, .lst es] ∧ es.length < 1000 ∧ ∀ fs : List D, fs.Perm es → Qd (.lst fs) := by
    unfold g_l_any_order at hf
    split at hf
    · exact ⟨_, rfl, hf.1, hf.2⟩
    · exact hf.elim
  obtain ⟨v1, v2, rfl, r1, r2⟩ := two_v r
  obtain rfl : v1 = .ref S.s := by cases r1; rfl
  obtain ⟨a, us, rfl, hR, rl⟩ := lst_v r2
  show t_any K _ [some (.ref S.s), some (.ref a), none, none] H
  refine ⟨_, rfl, a, us, rfl, .inl (.inl (wd.rh _ _ hR)), fun p hp => ?_⟩
  have nP : NewP S R H R (upd H p (.lst us)) p := ⟨wd.laid hp, hp, wd.new_r hp⟩
  have hl0 := rl.len
  refine ⟨_, rfl, p, us, rfl, .inl (.inl (.inl upd_same)), (us.length : Int), rfl, by omega, by omega, ?_⟩
  intro L hL
  have hpL : L ≠ p := fun z => by rw [z, upd_same] at hL; cases hL
  have hL0 : H L = none := by rw [upd_ne hpL] at hL; exact hL
  have en : ((us.length : Int)).toNat = us.length := by omega
  rw [en]
  refine ⟨fun i m H' => m = us.length - i ∧ i ≤ us.length ∧ ∃ R' vs' ds' va fs, NewP S R H R' H' p ∧ NewP S R H R' H' L ∧ H' p = some (.lst vs') ∧ H' L = some (.lst va) ∧ RepL K S R' vs' ds' ∧ RepL K S R' va fs ∧ (fs ++ ds').Perm es ∧ ds'.length = us.length - i,
    ⟨us.length, by simp, Nat.zero_le _, R, us, es, [], [], ?_, ?_, ?_, upd_same, rl, .nil, List.Perm.refl _, by omega⟩, ?_⟩
  · refine ⟨?_, hp, nP.rn⟩
    have w2 : Wx S [] R (upd H p (.lst us)) R (upd (upd H p (.lst us)) L (.lst [])) := nP.w.wd.laid hL
    exact nP.w.tr w2
  · have w2 : Wx S [] R (upd H p (.lst us)) R (upd (upd H p (.lst us)) L (.lst [])) := nP.w.wd.laid hL
    exact ⟨nP.w.tr w2, hL0, wd.new_r hL0⟩
  · rw [upd_ne (Ne.symm hpL), upd_same]
  rintro i m H' ⟨rfl, hi, R', vs', ds', va, fs, n1, n2, hp', hL', rp, ra, pm, hlen'⟩
  have lv := rp.len
  by_cases hlt : i < us.length
  · refine .inr ⟨hlt, fun H3 => ∃ R' vs' ds' va fs, NewP S R H R' H3 p ∧ NewP S R H R' H3 L ∧ H3 p = some (.lst vs') ∧ H3 L = some (.lst va) ∧ RepL K S R' vs' ds' ∧ RepL K S R' va fs ∧ (fs ++ ds').Perm es ∧ ds'.length = us.length - (i + 1),
      fun H3 h3 => ⟨us.length - (i + 1), by omega, rfl, hlt, h3⟩, fun x H'' ⟨e1, e2⟩ => ?_⟩
    subst e1
    refine ⟨rfl, ?_⟩
    dsimp only [tYes]
    rw [if_pos rfl]
    refine ⟨_, rfl, .inl ⟨rfl, vs', .inl (.inl hp')⟩, ?_⟩
    refine ⟨_, rfl, _, rfl, p, vs', rfl, .inl (.inl (.inl hp')), ?_⟩
    have hpk : g_l_pick [.src, .int (vs'.length : Int)] (fun d => ∃ q : Nat, d = .int (q : Int) ∧ q < vs'.length) := ⟨by omega, fun r0 h0 h1 => ⟨r0.toNat, by rw [Int.toNat_of_nonneg h0], by omega⟩⟩
    show spD K 2 g_l_pick ([.ref S.s, .int (vs'.length : Int)] ++ []) H'' _ E0
    refine ⟨S, R', [.src, .int (vs'.length : Int)], _, n1.w.wd, .cons .src (.cons (.int _) .nil), rfl, hpk, ?_⟩
    rintro d v R2 H2 ⟨q, rfl, hq⟩ w2 r2'
    obtain rfl := int_v r2'
    obtain ⟨m1, hp2⟩ := n1.step wd hp' w2
    obtain ⟨m2, hL2⟩ := n2.step wd hL' w2
    obtain ⟨y, hy⟩ : ∃ y, vs'[q]? = some y := ⟨vs'[q], List.getElem?_eq_getElem hq⟩
    obtain ⟨dy, hdy, ry⟩ := (rp.mono w2.rr).getV hy
    refine ⟨p, vs', (q : Int), q, y, rfl, rfl, hp2, by omega, by omega, ?_, hy, ?_⟩
    · have e := PySem.StrLaws.seqIndex_nonneg (i := (q : Int)) (n := vs'.length) (by omega) (by omega)
      rw [e, Int.toNat_natCast]
    · have m3 := m1.write (ob' := .lst (vs'.eraseIdx q)) wd hp2
      have hL3 : (upd H2 p (.lst (vs'.eraseIdx q))) L = some (.lst va) := by rw [upd_ne hpL]; exact hL2
      have m2' : NewP S R H R2 (upd H2 p (.lst (vs'.eraseIdx q))) L := ⟨m3.w, m2.new, m2.rn⟩
      have m4 := m2'.write (ob' := .lst (va ++ [y])) wd hL3
      have la := ra.len
      have lp := pm.length_eq
      rw [List.length_append] at lp
      refine ⟨va, hL3, ?_, R2, vs'.eraseIdx q, ds'.eraseIdx q, va ++ [y], fs ++ [dy], ⟨m4.w, m3.new, m3.rn⟩, m4, ?_, upd_same, (rp.mono w2.rr).erase q, (ra.mono w2.rr).append (.cons ry .nil), ?_, ?_⟩
      · rw [sizeLine_eq]; omega
      · rw [upd_ne (Ne.symm hpL), upd_same]
      · rw [List.append_assoc]
        exact ((perm_erase ds' q dy hdy).append_left fs).trans pm
      · rw [List.length_eraseIdx]
        have : q < ds'.length := by omega
        rw [if_pos this]
        omega
  · have e : i = us.length := by omega
    subst e
    refine .inl ⟨Nat.le_refl _, ?_⟩
    have h0 : ds' = [] := List.length_eq_zero_iff.mp (by omega)
    subst h0
    rw [List.append_nil] at pm
    refine k _ _ (upd R' L (.lst va)) H' (hQ fs pm) (n2.w.froze hL' n2.new n2.rn (n2.ne wd).1 (n2.ne wd).2) (.lst upd_same (ra.mono (Evl.Ex.new n2.rn)))
end
section
variable {P : Program} {w : World} {K : PySem.W.Frag} {mg : Str → Option Value} {base : Heap} {f : Addr} {fd : FuncData}
theorem w_l_any_order (B : Bl mg) (h_pick : Fn P w K mg base 1 2 "_law_pick" g_l_pick) (F : FunD K "_law_any_order" "_law_any_order" (defArgs s_l_any_order) (defBody s_l_any_order) (defScope s_l_any_order) [] [] f fd) (hm : mg "_law_any_order" = some (.ref f)) : Fn P w K mg base 2 2 "_law_any_order" g_l_any_order :=
  ⟨f, fd, _, F.ok sc_l_any_order (spD_len rfl) fun cdv A outer s H vs Q E hr h => ⟨_, (body_any B h_pick cdv A outer s H E hr).nox, pure_any vs H Q E h⟩, hm, F.kp, F.bindsN fun _ _ _ _ _ _ us hl => match us, hl with | [_, _], _ => rfl⟩
end
end E64
/-! the source made -/
namespace E64
open PySem PySem.Spec PyProof.Rows L2
abbrev N_l_open_cells : List Str := ["_law_script", "_law_stirred", "_law_cell", "_law_cells"]
abbrev s_l_open_cells : Stmt := top 30
theorem sc_l_open_cells : FnScope N_l_open_cells ["_law_script"] (defScope s_l_open_cells) := C8.fnScope_by (by decide +kernel)
abbrev rAbs1 : List V → Hp → VK → Prop := fun xs H Q => ∃ i, xs = [.int i] ∧ Q (.int (if i < 0 then -i else i)) H
def t_open (K : PySem.W.Frag) : TS := tSeq (tAsg (tC (.int 11)) (gName 1))
  (tSeq (tFor (iList K (tVar 0)) (gName 2) (tAsg (tOp rMod1 (tCall1 rInt1 (tOp rAdd1 (tOp rAdd1 (tOp rMul1 (tVar 1) (tC (.int 69069))) (tOp rMul1 (tVar 2) (tC (.int 31)))) (tC (.int 5)))) (tC (.int 2147483629))) (gName 1)))
  (tSeq (tAsg (tLc (iList K (tVar 0)) (gName 2) tYes (tCall1 rAbs1 (tVar 2)) [2]) (gName 3))
  (tRet (tDisp [(tC (.str "cells"), tRevL K (tVar 3)), (tC (.str "left"), tC (.int 1)), (tC (.str "mixed"), tVar 1), (tC (.str "turn"), tC (.int 0))]))))
/-- the promise: a new source -/
def spOpen (K : PySem.W.Frag) : Sp := fun vs H Q _ => ∃ (a : Addr) (ns : List Int), vs = [.ref a] ∧ SqL K H a (ns.map V.int) ∧ ns.length ≤ 1000 ∧
  ∀ (H' : Hp) (p c : Addr) (cs : List Int) (m : Int), (∀ b o, H b = some o → H' b = some o) → H p = none → H c = none → H' c = some (.lst (cs.map V.int)) → H' p = some (.dK (srcD c 1 m 0)) → Q (.ref p) H'
section
variable {P : Program} {w : World} {K : PySem.W.Frag} {mg : Str → Option Value} {base : Heap} {f : Addr} {fd : FuncData}
theorem body_open (B : Bl mg) (cdv : Value) (A : Around) (outer : List PySem.Env) (s : Shared) (H : Hp) (E : XK) (hr : Room 0 (A.deeper (envOfC "_law_open_cells" (defScope s_l_open_cells) s.heap.objs.size f cdv))) :
    PSs (cxOf CX0 P w K mg base N_l_open_cells "_law_open_cells" (defScope s_l_open_cells) f cdv A outer s H E).nox (defBody s_l_open_cells) (t_open K) := by
  have nd := sc_l_open_cells.nd
  exact pss_cons (ps_asg pe_int (pg_name nd rfl (.inl rfl)))
    (pss_cons (ps_for PassesOwn.never rfl (pi_list (pv 0)) (pg_name nd rfl (.inl rfl)) (pss_one (ps_asg (pe_op op_mod (pe_int1 rfl B.int_ (pe_op op_add (pe_op op_add (pe_op op_mul (pv 1) pe_int) (pe_op op_mul (pv 2) pe_int)) pe_int)) pe_int) (pg_name nd rfl (.inl rfl)))))
    (pss_cons (ps_setLc (own := [("_law_cell", 2)]) (g := gName 2) (tt := tYes) rfl nd rfl rfl (sw_true rfl rfl rfl (by decide +kernel)) (pi_list (pv 0)) (blkOk_by (by kernel_rfl)) (fun _ _ _ _ _ => pg_name nd rfl (.inl rfl)) (fun _ _ _ _ _ => pts_nil)
        (fun _ _ _ _ _ => pe_callB call_abs rfl B.abs_ (by decide +kernel) (pa_cons (pv 2) pa_nil rfl) (by decide) (by decide) rfl rfl))
    (pss_one (ps_ret (pe_disp (pps_cons pe_str (pe_revL (pv 3)) (pps_cons pe_str pe_int (pps_cons pe_str (pv 1) (pps_cons pe_str pe_int pps_nil)))) rfl rfl (fun z => nomatch z) (by decide))))))
end
theorem pure_open {K : PySem.W.Frag} (vs : List V) (H : Hp) (Q : VK) (E : XK) (h : spOpen K vs H Q E) : t_open K { nx := fun _ H' => Q .non H', rt := Q } (L2.start N_l_open_cells vs) H := by
  obtain ⟨a, ns, rfl, hS, hlen, k⟩ := h
  show t_open K _ [some (.ref a), none, none, none] H
  refine ⟨_, rfl, a, rfl, ⟨_, hS⟩, ?_⟩
  -- the loop
  refine ⟨fun i m σ' H' => m = ns.length - i ∧ i ≤ ns.length ∧ H' = H ∧ ∃ (x : Int) (z : Option V), σ' = [some (.ref a), some (.int x), z, none], ⟨ns.length, by simp, Nat.zero_le _, rfl, 11, none, rfl⟩, ?_⟩
  rintro i m σ' H' ⟨rfl, hi, rfl, x, z, rfl⟩
  by_cases hlt : i < ns.length
  · refine .inr ⟨⟨_, .int ns[i], hS, by simp [hlt]⟩, fun σ2 H2 => H2 = H' ∧ ∃ (x : Int) (z : Option V), σ2 = [some (.ref a), some (.int x), z, none], fun σ2 H2 ⟨e, x, z, e2⟩ => ⟨ns.length - (i + 1), by omega, rfl, hlt, e, x, z, e2⟩, fun y H2 ⟨e, hy⟩ => ?_⟩
    subst e
    have hy := hy _ hS
    have ey : y = .int ns[i] := by
      rw [List.getElem?_map, List.getElem?_eq_getElem hlt] at hy
      exact (Option.some.inj hy).symm
    subst ey
    refine ⟨_, rfl, _, _, rfl, rfl, .inr ⟨by decide, by decide⟩, _, rfl, _, _, rfl, rfl, .inr ⟨by decide, by decide⟩, _, _, rfl, rfl, _, _, rfl, rfl, ?_⟩
    refine .inl ⟨_, rfl, _, _, rfl, rfl, by show (0 : Int) < 2147483629; decide, ?_⟩
    exact ⟨rfl, _, _, rfl⟩
  · have e : i = ns.length := by omega
    subst e
    refine .inl ⟨⟨_, hS, by rw [List.length_map]; exact Nat.le_refl _⟩, ?_⟩
    -- the cells
    refine ⟨_, rfl, a, rfl, ⟨_, hS⟩, fun L hL => ?_⟩
    have keepL : ∀ b o, H' b = some o → ∀ l, (upd H' L (.lst l)) b = some o := fun b o e l => by rw [upd_ne (fun z => by rw [z, hL] at e; cases e)]; exact e
    have sq : ∀ l, SqL K (upd H' L (.lst l)) a (ns.map V.int) := fun l => by
      rcases hS with q | q
      · refine .inl ?_
        rcases q with q | ⟨f, q⟩
        · exact .inl (keepL _ _ q l)
        · exact .inr ⟨f, keepL _ _ q l⟩
      · exact .inr q
    refine ⟨fun i m H2 => m = ns.length - i ∧ i ≤ ns.length ∧ ∃ cs : List Int, H2 = upd H' L (.lst (cs.map V.int)) ∧ cs.length = i, ⟨ns.length, by simp, Nat.zero_le _, [], rfl, rfl⟩, ?_⟩
    rintro i m H2 ⟨rfl, hi, cs, rfl, hcs⟩
    by_cases hlt : i < ns.length
    · refine .inr ⟨⟨_, .int ns[i], sq _, by simp [hlt]⟩, fun H3 => ∃ cs : List Int, H3 = upd H' L (.lst (cs.map V.int)) ∧ cs.length = i + 1, fun H3 ⟨cs, e1, e2⟩ => ⟨ns.length - (i + 1), by omega, rfl, hlt, cs, e1, e2⟩, fun y H3 ⟨e, hy⟩ => ?_⟩
      subst e
      have hy := hy _ (sq _)
      have ey : y = .int ns[i] := by
        rw [List.getElem?_map, List.getElem?_eq_getElem hlt] at hy
        exact (Option.some.inj hy).symm
      subst ey
      refine ⟨rfl, ?_⟩
      dsimp only [tYes]
      rw [if_pos rfl]
      refine ⟨_, rfl, _, rfl, cs.map V.int, upd_same, ?_, cs ++ [if ns[i] < 0 then -ns[i] else ns[i]], ?_, by rw [List.length_append, hcs]; rfl⟩
      · rw [List.length_map, hcs]
        rw [sizeLine_eq]; omega
      · rw [upd_upd, List.map_append] <;> rfl
    · have e : i = ns.length := by omega
      subst e
      refine .inl ⟨⟨_, sq _, by rw [List.length_map]; exact Nat.le_refl _⟩, ?_⟩
      -- the dict
      intro p hp
      have hpL : p ≠ L := fun z => by rw [z, upd_same] at hp; cases hp
      have hp0 : H' p = none := by rw [upd_ne hpL] at hp; exact hp
      have hL2 : (upd (upd H' L (.lst (cs.map V.int))) p (.dK [])) L = some (.lst (cs.map V.int)) := by rw [upd_ne (Ne.symm hpL), upd_same]
      refine ⟨_, rfl, L, _, rfl, .inl (.inl hL2), fun c hc => ?_⟩
      have hcp : c ≠ p := fun z => by rw [z, upd_same] at hc; cases hc
      have hcL : c ≠ L := fun z => by rw [z, hL2] at hc; cases hc
      have hc0 : H' c = none := by rw [upd_ne hcp, upd_ne hcL] at hc; exact hc
      refine ⟨_, rfl, by rw [upd_ne (Ne.symm hcp), upd_same], srcD c 1 x 0, rfl, (show 4 ≤ 15 by decide), ?_⟩
      have em : mergeK [] (srcD c 1 x 0) = srcD c 1 x 0 := mergeK_nodup (by
        show ([.inr "cells", .inr "left", .inr "mixed", .inr "turn"] : List Key).Nodup
        decide +kernel)
      rw [em, show (cs.map V.int).reverse = cs.reverse.map V.int from (List.map_reverse ..).symm]
      refine k _ p c cs.reverse x (fun b o e => ?_) hp0 hc0 ?_ upd_same
      · rw [upd_ne (fun z => by rw [z, hp0] at e; cases e), upd_ne (fun z => by rw [z, hc0] at e; cases e), upd_ne (fun z => by rw [z, hp0] at e; cases e), upd_ne (fun z => by rw [z, hL] at e; cases e)]
        exact e
      · rw [upd_ne hcp, upd_same]
section
variable {P : Program} {w : World} {K : PySem.W.Frag} {mg : Str → Option Value} {base : Heap} {f : Addr} {fd : FuncData}
theorem w_l_open_cells (B : Bl mg) (F : FunD K "_law_open_cells" "_law_open_cells" (defArgs s_l_open_cells) (defBody s_l_open_cells) (defScope s_l_open_cells) [] [] f fd) (hm : mg "_law_open_cells" = some (.ref f)) :
    ∃ (f : Addr) (fd : FuncData) (ps : List Str), FnOk P w K mg base CX0 1 f fd ps (spOpen K) ∧ mg "_law_open_cells" = some (.ref f) ∧ PySem.W.keepIn K (.ref f) = true ∧ Binds K fd ps [] :=
  ⟨f, fd, ["_law_script"], F.ok sc_l_open_cells (fun vs H Q E ⟨a, ns, e, _⟩ => by rw [e]; rfl) fun cdv A outer s H vs Q E hr h => ⟨_, (body_open B cdv A outer s H E hr).nox, pure_open vs H Q E h⟩, hm, F.kp, F.bindsN fun _ _ _ _ _ _ us hl => match us, hl with | [_], _ => rfl⟩
end
end E64
namespace E64
open PySem PySem.Spec PyProof.Rows L2
/-! law draw command -/
abbrev s_l_draw_command : Stmt := top 34
abbrev N_l_draw_command : List Str := ["_law_source", "_law_needs", "_law_depth", "_law_road", "_law_one", "_law_other", "_law_word", "_law_name", "_law_lap"]
theorem sc_l_draw_command : FnScope N_l_draw_command ["_law_source", "_law_needs", "_law_depth"] (defScope s_l_draw_command) := C8.fnScope_by (by decide +kernel)
def c_l_draw_command (rec : List D → (D → Prop) → Prop) : CS := sSeq (sSet 3 (cCall 2 g_l_pick (aCons (cVar 0) (aCons (cIf (cTest (cOp fGt (cVar 2) (cC (.int 0)))) (cC (.int 9)) (cC (.int 4))) (aNil)))))
  (sSeq (sIf (cTest (cOp fEq (cVar 3) (cC (.int 0)))) (sRet (cTup (aCons (cC (.str "value")) (aCons (cCall 1 g_l_draw_value (aCons (cVar 0) (aNil))) (aNil))))) (sNil))
  (sSeq (sIf (cTest (cOp fEq (cVar 3) (cC (.int 1)))) (sRet (cTup (aCons (cC (.str "attempt")) (aNil)))) (sNil))
  (sSeq (sIf (cTest (cOp fLt (cVar 3) (cC (.int 4)))) (sSeq (sSet 7 (cIf (cTest (cOp fGt (cCB fLen (aCons (cVar 1) (aNil))) (cC (.int 0)))) (cOp fIx (cVar 1) (cCall 2 g_l_pick (aCons (cVar 0) (aCons (cCB fLen (aCons (cVar 1) (aNil))) (aNil))))) (cC .non)))
  (sRet (cIf (cTest (cOp fIsNot (cVar 7) (cC .non))) (cTup (aCons (cC (.str "result")) (aCons (cVar 7) (aNil)))) (cTup (aCons (cC (.str "value")) (aCons (cCall 1 g_l_draw_value (aCons (cVar 0) (aNil))) (aNil))))))) (sNil))
  (sSeq (sAsg (cComp (wRng (aCons (cC (.int 2)) (aNil))) [8] (gN 8) (bYes) (cCall 3 rec (aCons (cVar 0) (aCons (cVar 1) (aCons (cOp fSub (cVar 2) (cC (.int 1))) (aNil)))))) (gU [4, 5]))
  (sSeq (sIf (cTest (cOp fEq (cVar 3) (cC (.int 4)))) (sRet (cTup (aCons (cC (.str "if")) (aCons (cVar 4) (aCons (cVar 5) (aCons (cCall 3 rec (aCons (cVar 0) (aCons (cVar 1) (aCons (cOp fSub (cVar 2) (cC (.int 1))) (aNil))))) (aNil))))))) (sNil))
  (sSeq (sIf (cTest (cOp fEq (cVar 3) (cC (.int 5)))) (sRet (cTup (aCons (cC (.str "demand")) (aCons (cTup (aCons (cC (.str "below")) (aCons (cTup (aCons (cC (.str "value")) (aCons (cCall 2 g_l_pick (aCons (cVar 0) (aCons (cC (.int 4)) (aNil)))) (aNil)))) (aCons (cTup (aCons (cC (.str "attempt")) (aNil))) (aNil))))) (aCons (cVar 5) (aNil)))))) (sNil))
  (sSeq (sIf (cTest (cOp fEq (cVar 3) (cC (.int 6)))) (sRet (cTup (aCons (cC (.str "demand")) (aCons (cVar 4) (aCons (cVar 5) (aNil)))))) (sNil))
  (sSeq (sSet 6 (cOp fIx (cLst (aCons (cC (.str "plus")) (aCons (cC (.str "less")) (aCons (cC (.str "times")) (aCons (cC (.str "is")) (aCons (cC (.str "below")) (aCons (cC (.str "and")) (aCons (cC (.str "or")) (aCons (cC (.str "joined")) (aCons (cC (.str "not")) (aNil))))))))))) (cCall 2 g_l_pick (aCons (cVar 0) (aCons (cC (.int 9)) (aNil))))))
  (sSeq (sIf (cTest (cOp fEq (cVar 6) (cC (.str "times")))) (sRet (cTup (aCons (cVar 6) (aCons (cVar 4) (aCons (cTup (aCons (cC (.str "value")) (aCons (cCall 2 g_l_pick (aCons (cVar 0) (aCons (cC (.int 4)) (aNil)))) (aNil)))) (aNil)))))) (sNil))
  (sRet (cIf (cTest (cOp fEq (cVar 6) (cC (.str "not")))) (cTup (aCons (cVar 6) (aCons (cVar 4) (aNil)))) (cTup (aCons (cVar 6) (aCons (cVar 4) (aCons (cVar 5) (aNil))))))))))))))))
theorem b_l_draw_command {rec : List D → (D → Prop) → Prop} {P : Program} {w : World} {K : PySem.W.Frag} {mg : Str → Option Value} {base : Heap} {f : Addr} {fd : FuncData} {k : Nat} (hk : 2 ≤ k) (B : Bl mg) (h_l_pick : Fn P w K mg base 1 2 "_law_pick" g_l_pick) (h_l_draw_value : Fn P w K mg base 2 1 "_law_draw_value" g_l_draw_value) (h_l_draw_command : Fn P w K mg base k 3 "_law_draw_command" rec) (cdv : Value) (A : Around) (outer : List PySem.Env) (s : Shared) (H : Hp) (E : XK) (hr : Room k (A.deeper (envOfC "_law_draw_command" (defScope s_l_draw_command) s.heap.objs.size f cdv))) :
    DSs (cxOf CX0 P w K mg base N_l_draw_command "_law_draw_command" (defScope s_l_draw_command) f cdv A outer s H E).nox (defBody s_l_draw_command) (c_l_draw_command rec) := by
  have nd := sc_l_draw_command.nd
  have hu1 := room_u1 hr
  have hu64 := room_u64 hr
  exact ds_cons (ds_set nd (de_callN h_l_pick (hr.mono (by omega)) rfl (dl_cons (dv 0) (dl_cons (de_if (dt_gt (dv 2) (de_int)) (de_int) (de_int)) (dl_nil)))))
    (ds_cons (ds_if (dt_eq hu64 (dv 3) (de_int)) (ds_one (ds_ret (de_tup (dl_cons (de_str) (dl_cons (de_callN h_l_draw_value (hr.mono (by omega)) rfl (dl_cons (dv 0) (dl_nil))) (dl_nil)))))) (ds_nil))
    (ds_cons (ds_if (dt_eq hu64 (dv 3) (de_int)) (ds_one (ds_ret (de_tup (dl_cons (de_str) (dl_nil))))) (ds_nil))
    (ds_cons (ds_if (dt_lt (dv 3) (de_int)) (ds_cons (ds_set nd (de_if (dt_gt (de_len rfl B.len_ (dl_cons (dv 1) (dl_nil))) (de_int)) (de_ix (dv 1) (de_callN h_l_pick (hr.mono (by omega)) rfl (dl_cons (dv 0) (dl_cons (de_len rfl B.len_ (dl_cons (dv 1) (dl_nil))) (dl_nil))))) (de_non)))
    (ds_one (ds_ret (de_if (dt_isnot (dv 7) (de_non)) (de_tup (dl_cons (de_str) (dl_cons (dv 7) (dl_nil)))) (de_tup (dl_cons (de_str) (dl_cons (de_callN h_l_draw_value (hr.mono (by omega)) rfl (dl_cons (dv 0) (dl_nil))) (dl_nil)))))))) (ds_nil))
    (ds_cons (ds_asg (de_of (df_comp (own := [("_law_lap", 8)]) (is := [8]) rfl nd (di_rng rfl B.range_ (dl_cons (de_int) (dl_nil))) (blkOk_by (by kernel_rfl)) (fun _ _ _ _ _ => dg_name (pg_name nd rfl (by first | exact .inl rfl | exact .inr rfl))) (fun _ _ _ _ _ => dts_nil) (fun _ _ _ _ _ => de_callN h_l_draw_command (hr.mono (by omega)) rfl (dl_cons (dv 0) (dl_cons (dv 1) (dl_cons (de_sub (dv 2) (de_int)) (dl_nil))))))) (dg_unl (is := [4, 5]) rfl (pgs_cons (pg_name nd rfl (by first | exact .inl rfl | exact .inr rfl)) (pgs_cons (pg_name nd rfl (by first | exact .inl rfl | exact .inr rfl)) (pgs_nil)))))
    (ds_cons (ds_if (dt_eq hu64 (dv 3) (de_int)) (ds_one (ds_ret (de_tup (dl_cons (de_str) (dl_cons (dv 4) (dl_cons (dv 5) (dl_cons (de_callN h_l_draw_command (hr.mono (by omega)) rfl (dl_cons (dv 0) (dl_cons (dv 1) (dl_cons (de_sub (dv 2) (de_int)) (dl_nil))))) (dl_nil)))))))) (ds_nil))
    (ds_cons (ds_if (dt_eq hu64 (dv 3) (de_int)) (ds_one (ds_ret (de_tup (dl_cons (de_str) (dl_cons (de_tup (dl_cons (de_str) (dl_cons (de_tup (dl_cons (de_str) (dl_cons (de_callN h_l_pick (hr.mono (by omega)) rfl (dl_cons (dv 0) (dl_cons (de_int) (dl_nil)))) (dl_nil)))) (dl_cons (de_tup (dl_cons (de_str) (dl_nil))) (dl_nil))))) (dl_cons (dv 5) (dl_nil))))))) (ds_nil))
    (ds_cons (ds_if (dt_eq hu64 (dv 3) (de_int)) (ds_one (ds_ret (de_tup (dl_cons (de_str) (dl_cons (dv 4) (dl_cons (dv 5) (dl_nil))))))) (ds_nil))
    (ds_cons (ds_set nd (de_ix (de_of (df_lst (dl_cons (de_str) (dl_cons (de_str) (dl_cons (de_str) (dl_cons (de_str) (dl_cons (de_str) (dl_cons (de_str) (dl_cons (de_str) (dl_cons (de_str) (dl_cons (de_str) (dl_nil)))))))))))) (de_callN h_l_pick (hr.mono (by omega)) rfl (dl_cons (dv 0) (dl_cons (de_int) (dl_nil))))))
    (ds_cons (ds_if (dt_eq hu64 (dv 6) (de_str)) (ds_one (ds_ret (de_tup (dl_cons (dv 6) (dl_cons (dv 4) (dl_cons (de_tup (dl_cons (de_str) (dl_cons (de_callN h_l_pick (hr.mono (by omega)) rfl (dl_cons (dv 0) (dl_cons (de_int) (dl_nil)))) (dl_nil)))) (dl_nil))))))) (ds_nil))
    (ds_one (ds_ret (de_if (dt_eq hu64 (dv 6) (de_str)) (de_tup (dl_cons (dv 6) (dl_cons (dv 4) (dl_nil)))) (de_tup (dl_cons (dv 6) (dl_cons (dv 4) (dl_cons (dv 5) (dl_nil)))))))))))))))))
end E64
namespace E64
open PySem PySem.Spec PyProof.Rows L2
/-! law draw letter -/
abbrev s_l_draw_letter : Stmt := top 48
abbrev N_l_draw_letter : List Str := ["_law_source", "_law_own", "_law_names", "_law_name", "_law_road", "_law_epoch", "_law_fence", "_law_m", "_law_held", "_law_needs", "_law_job_here", "_law_barred", "_law_ready", "_law_hold", "_law_outcome", "_law_bent", "_law_turned", "_law_one"]
theorem sc_l_draw_letter : FnScope N_l_draw_letter ["_law_source", "_law_own"] (defScope s_l_draw_letter) := C8.fnScope_by (by decide +kernel)
def c_l_draw_letter : CS := sSeq (sSet 2 (cOp fAdd (cComp (wTup (cOp fIx (cDGet (cVar 1) (cC (.str "book"))) (cC (.int 1)))) [10] (gN 10) (bYes) (cOp fIx (cVar 10) (cC (.int 0)))) (cLst (aCons (cC (.str "zz")) (aNil)))))
  (sSeq (sPar [3, 4, 5] (aCons (cOp fIx (cVar 2) (cCall 2 g_l_pick (aCons (cVar 0) (aCons (cCB fLen (aCons (cVar 2) (aNil))) (aNil))))) (aCons (cCall 2 g_l_pick (aCons (cVar 0) (aCons (cC (.int 12)) (aNil)))) (aCons (cDGet (cVar 1) (cC (.str "epoch"))) (aNil)))))
  (sSeq (sPar [6, 7] (aCons (cOp fAdd (cOp fAdd (cDGet (cVar 1) (cC (.str "fence"))) (cC (.int 1))) (cCall 2 g_l_pick (aCons (cVar 0) (aCons (cC (.int 2)) (aNil))))) (aCons (cCall 2 g_l_pick (aCons (cVar 0) (aCons (cC (.int 3)) (aNil)))) (aNil))))
  (sSeq (sIf (cTest (cOp fEq (cVar 4) (cC (.int 0)))) (sRet (cTup (aCons (cC (.str "take")) (aCons (cCB fMax (aCons (cC (.int 1)) (aCons (cOp fSub (cOp fAdd (cVar 5) (cCall 2 g_l_pick (aCons (cVar 0) (aCons (cC (.int 3)) (aNil))))) (cC (.int 1))) (aNil)))) (aNil))))) (sNil))
  (sSeq (sSet 5 (cCB fMax (aCons (cC (.int 1)) (aCons (cOp fAdd (cOp fSub (cVar 5) (cCB fInt (aCons (cOp fEq (cCall 2 g_l_pick (aCons (cVar 0) (aCons (cC (.int 8)) (aNil)))) (cC (.int 0))) (aNil)))) (cCB fInt (aCons (cOp fEq (cCall 2 g_l_pick (aCons (cVar 0) (aCons (cC (.int 12)) (aNil)))) (cC (.int 0))) (aNil)))) (aNil)))))
  (sSeq (sIf (cTest (cOp fLt (cVar 4) (cC (.int 6)))) (sSeq (sSet 12 (cComp (wSeq (cVar 2)) [17] (gN 17) (cTest (cOp fIs (cCall 2 g_l_hindered (aCons (cVar 1) (aCons (cVar 17) (aNil)))) (cC .non))) (cVar 17)))
  (sSeq (sSet 3 (cIf (cAnd (cTest (cOp fNe (cVar 12) (cLst (aNil)))) (cTest (cOp fLt (cVar 4) (cC (.int 5))))) (cOp fIx (cVar 12) (cCall 2 g_l_pick (aCons (cVar 0) (aCons (cCB fLen (aCons (cVar 12) (aNil))) (aNil))))) (cVar 3)))
  (sRet (cTup (aCons (cC (.str "grant")) (aCons (cVar 5) (aCons (cVar 3) (aCons (cIf (cTest (cOp fGt (cCall 2 g_l_pick (aCons (cVar 0) (aCons (cC (.int 5)) (aNil)))) (cC (.int 0)))) (cVar 6) (cCB fMax (aCons (cC (.int 1)) (aCons (cDGet (cVar 1) (cC (.str "fence"))) (aNil))))) (aCons (cVar 7) (aNil)))))))))) (sNil))
  (sSeq (sSet 8 (cCB fSorted (aCons (cCB fList (aCons (cDGet (cVar 1) (cC (.str "holds"))) (aNil))) (aNil))))
  (sSeq (sIf (cAnd (cTest (cOp fLt (cVar 4) (cC (.int 10)))) (cTest (cOp fNe (cVar 8) (cLst (aNil))))) (sSeq (sSet 3 (cOp fIx (cVar 8) (cCall 2 g_l_pick (aCons (cVar 0) (aCons (cCB fLen (aCons (cVar 8) (aNil))) (aNil))))))
  (sSeq (sSet 13 (cDGet (cDGet (cVar 1) (cC (.str "holds"))) (cVar 3)))
  (sSeq (sIf (cTest (cOp fEq (cVar 4) (cC (.int 9)))) (sRet (cTup (aCons (cC (.str "free")) (aCons (cVar 5) (aCons (cVar 3) (aCons (cCB fMax (aCons (cC (.int 1)) (aCons (cOp fAdd (cOp fIx (cVar 13) (cC (.int 0))) (cOp fIx (cLst (aCons (cC (.int 0)) (aCons (cC (.int 0)) (aCons (cC (.int 0)) (aCons (cC (.int 1)) (aCons (cOp fSub (cC (.int 0)) (cC (.int 1))) (aNil))))))) (cCall 2 g_l_pick (aCons (cVar 0) (aCons (cC (.int 5)) (aNil)))))) (aNil)))) (aNil))))))) (sNil))
  (sSeq (sSet 14 (cOp fIx (cLst (aCons (cTup (aCons (cC (.str "failed")) (aNil))) (aCons (cTup (aCons (cC (.str "failed")) (aNil))) (aCons (cTup (aCons (cC (.str "done")) (aCons (cC (.int 5)) (aNil)))) (aCons (cTup (aCons (cC (.str "done")) (aCons (cC .non) (aNil)))) (aCons (cTup (aCons (cC (.str "done")) (aCons (cC (.str "a")) (aNil)))) (aNil))))))) (cCall 2 g_l_pick (aCons (cVar 0) (aCons (cC (.int 5)) (aNil))))))
  (sSeq (sPar [15, 16] (aCons (cOp fIx (cLst (aCons (cC (.int 0)) (aCons (cC (.int 0)) (aCons (cC (.int 0)) (aCons (cC (.int 0)) (aCons (cC (.int 1)) (aCons (cOp fSub (cC (.int 0)) (cC (.int 1))) (aNil)))))))) (cCall 2 g_l_pick (aCons (cVar 0) (aCons (cC (.int 6)) (aNil))))) (aCons (cOp fIx (cLst (aCons (cC (.int 0)) (aCons (cC (.int 0)) (aCons (cC (.int 0)) (aCons (cC (.int 0)) (aCons (cC (.int 1)) (aCons (cOp fSub (cC (.int 0)) (cC (.int 1))) (aNil)))))))) (cCall 2 g_l_pick (aCons (cVar 0) (aCons (cC (.int 6)) (aNil))))) (aNil))))
  (sRet (cTup (aCons (cC (.str "end")) (aCons (cCB fMax (aCons (cC (.int 0)) (aCons (cOp fAdd (cOp fIx (cVar 13) (cC (.int 1))) (cVar 15)) (aNil)))) (aCons (cVar 3) (aCons (cOp fIx (cVar 13) (cC (.int 0))) (aCons (cCB fMax (aCons (cC (.int 1)) (aCons (cOp fAdd (cOp fIx (cVar 13) (cC (.int 2))) (cVar 16)) (aNil)))) (aCons (cVar 14) (aNil)))))))))))))) (sNil))
  (sSeq (sIf (cTest (cOp fEq (cVar 4) (cC (.int 10)))) (sRet (cTup (aCons (cC (.str "ask")) (aCons (cVar 5) (aNil))))) (sNil))
  (sSeq (sSet 9 (cCB fList (aCons (cVar 2) (aNil))))
  (sSeq (sFor (wTup (cOp fIx (cDGet (cVar 1) (cC (.str "book"))) (cC (.int 1)))) (gN 10) (sSet 9 (cOp fAdd (cVar 9) (cCB fList (aCons (cOp fIx (cVar 10) (cC (.int 2))) (aNil))))))
  (sSeq (sSet 11 (cComp (wSeq (cSl (cVar 2) (oNone) (oSome (cUn fNeg (cC (.int 1)))))) [17] (gN 17) (cTest (cOp fIsNot (cCall 2 g_l_barring (aCons (cVar 1) (aCons (cVar 17) (aNil)))) (cC .non))) (cVar 17)))
  (sSeq (sIf (cAnd (cTest (cOp fNe (cVar 11) (cLst (aNil)))) (cTest (cOp fGt (cCall 2 g_l_pick (aCons (cVar 0) (aCons (cC (.int 3)) (aNil)))) (cC (.int 0))))) (sSeq (sSet 3 (cOp fIx (cVar 11) (cCall 2 g_l_pick (aCons (cVar 0) (aCons (cCB fLen (aCons (cVar 11) (aNil))) (aNil))))))
  (sRet (cTup (aCons (cC (.str "bar")) (aCons (cVar 5) (aCons (cVar 3) (aCons (cCall 2 g_l_barring (aCons (cVar 1) (aCons (cVar 3) (aNil)))) (aNil)))))))) (sNil))
  (sRet (cTup (aCons (cC (.str "bar")) (aCons (cVar 5) (aCons (cVar 3) (aCons (cOp fIx (cVar 9) (cCall 2 g_l_pick (aCons (cVar 0) (aCons (cCB fLen (aCons (cVar 9) (aNil))) (aNil))))) (aNil)))))))))))))))))))
def g_l_draw_letter : List D → (D → Prop) → Prop := fun ds Q => c_l_draw_letter (env0 N_l_draw_letter ds) (fun _ => Q .non) Q
theorem w_l_draw_letter {P : Program} {w : World} {K : PySem.W.Frag} {mg : Str → Option Value} {base : Heap} {f : Addr} {fd : FuncData} (B : Bl mg) (h_l_pick : Fn P w K mg base 1 2 "_law_pick" g_l_pick) (h_l_hindered : Fn P w K mg base 4 2 "_law_hindered" g_l_hindered) (h_l_barring : Fn P w K mg base 4 2 "_law_barring" g_l_barring) (F : FunD K "_law_draw_letter" "_law_draw_letter" (defArgs s_l_draw_letter) (defBody s_l_draw_letter) (defScope s_l_draw_letter) [] [] f fd) (hm : mg "_law_draw_letter" = some (.ref f)) : Fn P w K mg base 5 2 "_law_draw_letter" g_l_draw_letter := by
  refine ⟨f, fd, _, fn_d F sc_l_draw_letter rfl (fun cdv A outer s H E hr => ?_) (fun _ _ _ h => h), hm, F.kp, F.bindsN fun _ _ _ _ _ _ us hl => match us, hl with | [_, _], _ => rfl⟩
  have nd := sc_l_draw_letter.nd
  have hu1 := room_u1 hr
  have hu64 := room_u64 hr
  exact ds_cons (ds_set nd (de_add (de_of (df_comp (own := [("_law_job_here", 10)]) (is := [10]) rfl nd (di_tup (de_ix (de_dget hu1 (dv 1) (de_str)) (de_int))) (blkOk_by (by kernel_rfl)) (fun _ _ _ _ _ => dg_name (pg_name nd rfl (by first | exact .inl rfl | exact .inr rfl))) (fun _ _ _ _ _ => dts_nil) (fun _ _ _ _ _ => de_ix (dv 10) (de_int)))) (de_of (df_lst (dl_cons (de_str) (dl_nil))))))
    (ds_cons (ds_par3 (ps_par3 rfl nd rfl rfl rfl (by decide) (by decide) (by decide) rfl rfl rfl (dl_cons (de_ix (dv 2) (de_callN h_l_pick (hr.mono (by decide)) rfl (dl_cons (dv 0) (dl_cons (de_len rfl B.len_ (dl_cons (dv 2) (dl_nil))) (dl_nil))))) (dl_cons (de_callN h_l_pick (hr.mono (by decide)) rfl (dl_cons (dv 0) (dl_cons (de_int) (dl_nil)))) (dl_cons (de_dget hu1 (dv 1) (de_str)) (dl_nil)))) rfl) (fun _ _ _ h => h))
    (ds_cons (ds_par2 (ps_par rfl nd rfl rfl (by decide) rfl rfl (dl_cons (de_add (de_add (de_dget hu1 (dv 1) (de_str)) (de_int)) (de_callN h_l_pick (hr.mono (by decide)) rfl (dl_cons (dv 0) (dl_cons (de_int) (dl_nil))))) (dl_cons (de_callN h_l_pick (hr.mono (by decide)) rfl (dl_cons (dv 0) (dl_cons (de_int) (dl_nil)))) (dl_nil))) rfl) (fun _ _ _ h => h))
    (ds_cons (ds_if (dt_eq hu64 (dv 4) (de_int)) (ds_one (ds_ret (de_tup (dl_cons (de_str) (dl_cons (de_max rfl rfl B.max_ (dl_cons (de_int) (dl_cons (de_sub (de_add (dv 5) (de_callN h_l_pick (hr.mono (by decide)) rfl (dl_cons (dv 0) (dl_cons (de_int) (dl_nil))))) (de_int)) (dl_nil)))) (dl_nil)))))) (ds_nil))
    (ds_cons (ds_set nd (de_max rfl rfl B.max_ (dl_cons (de_int) (dl_cons (de_add (de_sub (dv 5) (de_intC rfl B.int_ (dl_cons (de_eq hu64 (de_callN h_l_pick (hr.mono (by decide)) rfl (dl_cons (dv 0) (dl_cons (de_int) (dl_nil)))) (de_int)) (dl_nil)))) (de_intC rfl B.int_ (dl_cons (de_eq hu64 (de_callN h_l_pick (hr.mono (by decide)) rfl (dl_cons (dv 0) (dl_cons (de_int) (dl_nil)))) (de_int)) (dl_nil)))) (dl_nil)))))
    (ds_cons (ds_if (dt_lt (dv 4) (de_int)) (ds_cons (ps_comp (own := [("_law_one", 17)]) (is := [17]) rfl nd (di_list (dv 2)) (blkOk_by (by kernel_rfl)) (fun _ _ _ _ _ => dg_name (pg_name nd rfl (by first | exact .inl rfl | exact .inr rfl))) (fun _ _ _ _ _ => dts_one (dt_is (de_callN h_l_hindered (hr.mono (by decide)) rfl (dl_cons (dv 1) (dl_cons (dv 17) (dl_nil)))) (de_non))) (fun _ _ _ _ _ => dv 17))
    (ds_cons (ds_set nd (de_if (dt_w (dw_and (dt_ne hu64 (dv 12) (de_of (df_lst (dl_nil)))) (dw_and1 (dt_lt (dv 4) (de_int))))) (de_ix (dv 12) (de_callN h_l_pick (hr.mono (by decide)) rfl (dl_cons (dv 0) (dl_cons (de_len rfl B.len_ (dl_cons (dv 12) (dl_nil))) (dl_nil))))) (dv 3)))
    (ds_one (ds_ret (de_tup (dl_cons (de_str) (dl_cons (dv 5) (dl_cons (dv 3) (dl_cons (de_if (dt_gt (de_callN h_l_pick (hr.mono (by decide)) rfl (dl_cons (dv 0) (dl_cons (de_int) (dl_nil)))) (de_int)) (dv 6) (de_max rfl rfl B.max_ (dl_cons (de_int) (dl_cons (de_dget hu1 (dv 1) (de_str)) (dl_nil))))) (dl_cons (dv 7) (dl_nil))))))))))) (ds_nil))
    (ds_cons (ds_set nd (de_sorted rfl B.sorted_ (dl_cons (de_list rfl rfl B.list_ (dl_cons (de_dget hu1 (dv 1) (de_str)) (dl_nil))) (dl_nil))))
    (ds_cons (ds_if (dt_w (dw_and (dt_lt (dv 4) (de_int)) (dw_and1 (dt_ne hu64 (dv 8) (de_of (df_lst (dl_nil))))))) (ds_cons (ds_set nd (de_ix (dv 8) (de_callN h_l_pick (hr.mono (by decide)) rfl (dl_cons (dv 0) (dl_cons (de_len rfl B.len_ (dl_cons (dv 8) (dl_nil))) (dl_nil))))))
    (ds_cons (ds_set nd (de_dget hu1 (de_dget hu1 (dv 1) (de_str)) (dv 3)))
    (ds_cons (ds_if (dt_eq hu64 (dv 4) (de_int)) (ds_one (ds_ret (de_tup (dl_cons (de_str) (dl_cons (dv 5) (dl_cons (dv 3) (dl_cons (de_max rfl rfl B.max_ (dl_cons (de_int) (dl_cons (de_add (de_ix (dv 13) (de_int)) (de_ix (de_of (df_lst (dl_cons (de_int) (dl_cons (de_int) (dl_cons (de_int) (dl_cons (de_int) (dl_cons (de_sub (de_int) (de_int)) (dl_nil)))))))) (de_callN h_l_pick (hr.mono (by decide)) rfl (dl_cons (dv 0) (dl_cons (de_int) (dl_nil)))))) (dl_nil)))) (dl_nil)))))))) (ds_nil))
    (ds_cons (ds_set nd (de_ix (de_of (df_lst (dl_cons (de_tup (dl_cons (de_str) (dl_nil))) (dl_cons (de_tup (dl_cons (de_str) (dl_nil))) (dl_cons (de_tup (dl_cons (de_str) (dl_cons (de_int) (dl_nil)))) (dl_cons (de_tup (dl_cons (de_str) (dl_cons (de_non) (dl_nil)))) (dl_cons (de_tup (dl_cons (de_str) (dl_cons (de_str) (dl_nil)))) (dl_nil)))))))) (de_callN h_l_pick (hr.mono (by decide)) rfl (dl_cons (dv 0) (dl_cons (de_int) (dl_nil))))))
    (ds_cons (ds_par2 (ps_par rfl nd rfl rfl (by decide) rfl rfl (dl_cons (de_ix (de_of (df_lst (dl_cons (de_int) (dl_cons (de_int) (dl_cons (de_int) (dl_cons (de_int) (dl_cons (de_int) (dl_cons (de_sub (de_int) (de_int)) (dl_nil))))))))) (de_callN h_l_pick (hr.mono (by decide)) rfl (dl_cons (dv 0) (dl_cons (de_int) (dl_nil))))) (dl_cons (de_ix (de_of (df_lst (dl_cons (de_int) (dl_cons (de_int) (dl_cons (de_int) (dl_cons (de_int) (dl_cons (de_int) (dl_cons (de_sub (de_int) (de_int)) (dl_nil))))))))) (de_callN h_l_pick (hr.mono (by decide)) rfl (dl_cons (dv 0) (dl_cons (de_int) (dl_nil))))) (dl_nil))) rfl) (fun _ _ _ h => h))
    (ds_one (ds_ret (de_tup (dl_cons (de_str) (dl_cons (de_max rfl rfl B.max_ (dl_cons (de_int) (dl_cons (de_add (de_ix (dv 13) (de_int)) (dv 15)) (dl_nil)))) (dl_cons (dv 3) (dl_cons (de_ix (dv 13) (de_int)) (dl_cons (de_max rfl rfl B.max_ (dl_cons (de_int) (dl_cons (de_add (de_ix (dv 13) (de_int)) (dv 16)) (dl_nil)))) (dl_cons (dv 14) (dl_nil))))))))))))))) (ds_nil))
    (ds_cons (ds_if (dt_eq hu64 (dv 4) (de_int)) (ds_one (ds_ret (de_tup (dl_cons (de_str) (dl_cons (dv 5) (dl_nil)))))) (ds_nil))
    (ds_cons (ds_set nd (de_list rfl rfl B.list_ (dl_cons (dv 2) (dl_nil))))
    (ds_cons (ds_for (is := [10]) rfl (di_tup (de_ix (de_dget hu1 (dv 1) (de_str)) (de_int))) (dg_name (pg_name nd rfl (by first | exact .inl rfl | exact .inr rfl))) (ds_one (ds_set nd (de_add (dv 9) (de_list rfl rfl B.list_ (dl_cons (de_ix (dv 10) (de_int)) (dl_nil)))))))
    (ds_cons (ps_comp (own := [("_law_one", 17)]) (is := [17]) rfl nd (di_list (de_sl (dv 2) (do_none) (do_some (de_neg (de_int))))) (blkOk_by (by kernel_rfl)) (fun _ _ _ _ _ => dg_name (pg_name nd rfl (by first | exact .inl rfl | exact .inr rfl))) (fun _ _ _ _ _ => dts_one (dt_isnot (de_callN h_l_barring (hr.mono (by decide)) rfl (dl_cons (dv 1) (dl_cons (dv 17) (dl_nil)))) (de_non))) (fun _ _ _ _ _ => dv 17))
    (ds_cons (ds_if (dt_w (dw_and (dt_ne hu64 (dv 11) (de_of (df_lst (dl_nil)))) (dw_and1 (dt_gt (de_callN h_l_pick (hr.mono (by decide)) rfl (dl_cons (dv 0) (dl_cons (de_int) (dl_nil)))) (de_int))))) (ds_cons (ds_set nd (de_ix (dv 11) (de_callN h_l_pick (hr.mono (by decide)) rfl (dl_cons (dv 0) (dl_cons (de_len rfl B.len_ (dl_cons (dv 11) (dl_nil))) (dl_nil))))))
    (ds_one (ds_ret (de_tup (dl_cons (de_str) (dl_cons (dv 5) (dl_cons (dv 3) (dl_cons (de_callN h_l_barring (hr.mono (by decide)) rfl (dl_cons (dv 1) (dl_cons (dv 3) (dl_nil)))) (dl_nil))))))))) (ds_nil))
    (ds_one (ds_ret (de_tup (dl_cons (de_str) (dl_cons (dv 5) (dl_cons (dv 3) (dl_cons (de_ix (dv 9) (de_callN h_l_pick (hr.mono (by decide)) rfl (dl_cons (dv 0) (dl_cons (de_len rfl B.len_ (dl_cons (dv 9) (dl_nil))) (dl_nil))))) (dl_nil))))))))))))))))))))

/-! law led letter -/
abbrev s_l_led_letter : Stmt := top 51
abbrev N_l_led_letter : List Str := ["_law_source", "_law_own", "_law_turn", "_law_ready", "_law_held", "_law_hold", "_law_job_here"]
theorem sc_l_led_letter : FnScope N_l_led_letter ["_law_source", "_law_own", "_law_turn"] (defScope s_l_led_letter) := C8.fnScope_by (by decide +kernel)
def c_l_led_letter : CS := sSeq (sPar [3, 4] (aCons (cComp (wTup (cOp fIx (cDGet (cVar 1) (cC (.str "book"))) (cC (.int 1)))) [6] (gN 6) (cTest (cOp fIs (cCall 2 g_l_hindered (aCons (cVar 1) (aCons (cOp fIx (cVar 6) (cC (.int 0))) (aNil)))) (cC .non))) (cOp fIx (cVar 6) (cC (.int 0)))) (aCons (cCB fSorted (aCons (cCB fList (aCons (cDGet (cVar 1) (cC (.str "holds"))) (aNil))) (aNil))) (aNil))))
  (sSeq (sIf (cAnd (cTest (cOp fEq (cVar 2) (cC (.int 1)))) (cTest (cOp fNe (cVar 3) (cLst (aNil))))) (sRet (cTup (aCons (cC (.str "grant")) (aCons (cDGet (cVar 1) (cC (.str "epoch"))) (aCons (cOp fIx (cVar 3) (cCall 2 g_l_pick (aCons (cVar 0) (aCons (cCB fLen (aCons (cVar 3) (aNil))) (aNil))))) (aCons (cOp fAdd (cDGet (cVar 1) (cC (.str "fence"))) (cC (.int 1))) (aCons (cCall 2 g_l_pick (aCons (cVar 0) (aCons (cC (.int 3)) (aNil)))) (aNil)))))))) (sNil))
  (sSeq (sIf (cAnd (cTest (cOp fEq (cVar 2) (cC (.int 2)))) (cTest (cOp fNe (cVar 4) (cLst (aNil))))) (sSeq (sSet 5 (cDGet (cDGet (cVar 1) (cC (.str "holds"))) (cOp fIx (cVar 4) (cC (.int 0)))))
  (sRet (cTup (aCons (cC (.str "end")) (aCons (cOp fIx (cVar 5) (cC (.int 1))) (aCons (cOp fIx (cVar 4) (cC (.int 0))) (aCons (cOp fIx (cVar 5) (cC (.int 0))) (aCons (cOp fIx (cVar 5) (cC (.int 2))) (aCons (cOp fIx (cLst (aCons (cTup (aCons (cC (.str "done")) (aCons (cC (.int 5)) (aNil)))) (aCons (cTup (aCons (cC (.str "failed")) (aNil))) (aNil)))) (cCall 2 g_l_pick (aCons (cVar 0) (aCons (cC (.int 2)) (aNil))))) (aNil)))))))))) (sNil))
  (sRet (cCall 2 g_l_draw_letter (aCons (cVar 0) (aCons (cVar 1) (aNil)))))))
def g_l_led_letter : List D → (D → Prop) → Prop := fun ds Q => c_l_led_letter (env0 N_l_led_letter ds) (fun _ => Q .non) Q
theorem w_l_led_letter {P : Program} {w : World} {K : PySem.W.Frag} {mg : Str → Option Value} {base : Heap} {f : Addr} {fd : FuncData} (B : Bl mg) (h_l_hindered : Fn P w K mg base 4 2 "_law_hindered" g_l_hindered) (h_l_pick : Fn P w K mg base 1 2 "_law_pick" g_l_pick) (h_l_draw_letter : Fn P w K mg base 5 2 "_law_draw_letter" g_l_draw_letter) (F : FunD K "_law_led_letter" "_law_led_letter" (defArgs s_l_led_letter) (defBody s_l_led_letter) (defScope s_l_led_letter) [] [] f fd) (hm : mg "_law_led_letter" = some (.ref f)) : Fn P w K mg base 6 3 "_law_led_letter" g_l_led_letter := by
  refine ⟨f, fd, _, fn_d F sc_l_led_letter rfl (fun cdv A outer s H E hr => ?_) (fun _ _ _ h => h), hm, F.kp, F.bindsN fun _ _ _ _ _ _ us hl => match us, hl with | [_, _, _], _ => rfl⟩
  have nd := sc_l_led_letter.nd
  have hu1 := room_u1 hr
  have hu64 := room_u64 hr
  exact ds_cons (ds_par2 (ps_par rfl nd rfl rfl (by decide) rfl rfl (dl_cons (de_of (df_comp (own := [("_law_job_here", 6)]) (is := [6]) rfl nd (di_tup (de_ix (de_dget hu1 (dv 1) (de_str)) (de_int))) (blkOk_by (by kernel_rfl)) (fun _ _ _ _ _ => dg_name (pg_name nd rfl (by first | exact .inl rfl | exact .inr rfl))) (fun _ _ _ _ _ => dts_one (dt_is (de_callN h_l_hindered (hr.mono (by decide)) rfl (dl_cons (dv 1) (dl_cons (de_ix (dv 6) (de_int)) (dl_nil)))) (de_non))) (fun _ _ _ _ _ => de_ix (dv 6) (de_int)))) (dl_cons (de_sorted rfl B.sorted_ (dl_cons (de_list rfl rfl B.list_ (dl_cons (de_dget hu1 (dv 1) (de_str)) (dl_nil))) (dl_nil))) (dl_nil))) rfl) (fun _ _ _ h => h))
    (ds_cons (ds_if (dt_w (dw_and (dt_eq hu64 (dv 2) (de_int)) (dw_and1 (dt_ne hu64 (dv 3) (de_of (df_lst (dl_nil))))))) (ds_one (ds_ret (de_tup (dl_cons (de_str) (dl_cons (de_dget hu1 (dv 1) (de_str)) (dl_cons (de_ix (dv 3) (de_callN h_l_pick (hr.mono (by decide)) rfl (dl_cons (dv 0) (dl_cons (de_len rfl B.len_ (dl_cons (dv 3) (dl_nil))) (dl_nil))))) (dl_cons (de_add (de_dget hu1 (dv 1) (de_str)) (de_int)) (dl_cons (de_callN h_l_pick (hr.mono (by decide)) rfl (dl_cons (dv 0) (dl_cons (de_int) (dl_nil)))) (dl_nil))))))))) (ds_nil))
    (ds_cons (ds_if (dt_w (dw_and (dt_eq hu64 (dv 2) (de_int)) (dw_and1 (dt_ne hu64 (dv 4) (de_of (df_lst (dl_nil))))))) (ds_cons (ds_set nd (de_dget hu1 (de_dget hu1 (dv 1) (de_str)) (de_ix (dv 4) (de_int))))
    (ds_one (ds_ret (de_tup (dl_cons (de_str) (dl_cons (de_ix (dv 5) (de_int)) (dl_cons (de_ix (dv 4) (de_int)) (dl_cons (de_ix (dv 5) (de_int)) (dl_cons (de_ix (dv 5) (de_int)) (dl_cons (de_ix (de_of (df_lst (dl_cons (de_tup (dl_cons (de_str) (dl_cons (de_int) (dl_nil)))) (dl_cons (de_tup (dl_cons (de_str) (dl_nil))) (dl_nil))))) (de_callN h_l_pick (hr.mono (by decide)) rfl (dl_cons (dv 0) (dl_cons (de_int) (dl_nil))))) (dl_nil))))))))))) (ds_nil))
    (ds_one (ds_ret (de_callN h_l_draw_letter (hr.mono (by decide)) rfl (dl_cons (dv 0) (dl_cons (dv 1) (dl_nil))))))))
end E64
namespace E64
open PySem PySem.Spec PyProof.Rows L2
/-- a command: any tuple -/
def gCmd (j : Nat) : List D → (D → Prop) → Prop
  | [.src, .tup ns, .int m], Q => (m ≤ (j : Int) ∧ ns.length < 1000 ∧ no9L ns = true) ∧ ∀ xs, no9L xs = true → Q (.tup xs)
  | _, _ => False
def g_l_draw_command : List D → (D → Prop) → Prop := gCmd 2
/-! law draw book -/
abbrev s_l_draw_book : Stmt := top 35
abbrev N_l_draw_book : List Str := ["_law_source", "_law_most", "_law_names", "_law_things", "_law_jobs", "_law_j", "_law_name", "_law_needs", "_law_uses", "_law_mode", "_law_command", "_law_start", "_law_length", "_law_tries", "_law_urgency", "_law_thing", "_law_units", "_law_one"]
theorem sc_l_draw_book : FnScope N_l_draw_book ["_law_source", "_law_most"] (defScope s_l_draw_book) := C8.fnScope_by (by decide +kernel)
def c_l_draw_book : CS := sSeq (sSet 2 (cSl (cCall 2 g_l_any_order (aCons (cVar 0) (aCons (cLst (aCons (cC (.str "a")) (aCons (cC (.str "b")) (aCons (cC (.str "ca")) (aCons (cC (.str "d")) (aCons (cC (.str "eb")) (aCons (cC (.str "f")) (aCons (cC (.str "g")) (aCons (cC (.str "hab")) (aNil)))))))))) (aNil)))) (oNone) (oSome (cOp fAdd (cC (.int 1)) (cCall 2 g_l_pick (aCons (cVar 0) (aCons (cVar 1) (aNil))))))))
  (sSeq (sParO 3 4 (cCB fTuple (aCons (cComp (wSeq (cSl (cLst (aCons (cC (.str "x")) (aCons (cC (.str "y")) (aNil)))) (oNone) (oSome (cCall 2 g_l_pick (aCons (cVar 0) (aCons (cC (.int 3)) (aNil))))))) [15] (gN 15) (bYes) (cTup (aCons (cVar 15) (aCons (cCall 2 g_l_pick (aCons (cVar 0) (aCons (cC (.int 4)) (aNil)))) (aNil))))) (aNil))) (cLst (aNil)))
  (sSeq (sFor (wEnum (aCons (cVar 2) (aNil))) (gT [5, 6]) (sSeq (sSet 7 (cCB fTuple (aCons (cCB fSorted (aCons (cComp (wSeq (cSl (cVar 2) (oNone) (oSome (cVar 5)))) [17] (gN 17) (cTest (cOp fEq (cCall 2 g_l_pick (aCons (cVar 0) (aCons (cC (.int 3)) (aNil)))) (cC (.int 0)))) (cVar 17)) (aNil))) (aNil))))
  (sSeq (sSet 8 (cComp (wTup (cVar 3)) [15, 16] (gT [15, 16]) (cAnd (cTest (cOp fGt (cVar 16) (cC (.int 0)))) (cTest (cOp fEq (cCall 2 g_l_pick (aCons (cVar 0) (aCons (cC (.int 2)) (aNil)))) (cC (.int 0))))) (cTup (aCons (cVar 15) (aCons (cVar 16) (aNil))))))
  (sSeq (sSet 8 (cCB fTuple (aCons (cComp (wSeq (cVar 8)) [15, 16] (gT [15, 16]) (bYes) (cTup (aCons (cVar 15) (aCons (cOp fAdd (cC (.int 1)) (cCall 2 g_l_pick (aCons (cVar 0) (aCons (cVar 16) (aNil))))) (aNil))))) (aNil))))
  (sSeq (sSet 9 (cOp fIx (cLst (aCons (cC (.str "all")) (aCons (cC (.str "all")) (aCons (cC (.str "ended")) (aNil))))) (cCall 2 g_l_pick (aCons (cVar 0) (aCons (cC (.int 3)) (aNil))))))
  (sSeq (sSet 10 (cCall 3 g_l_draw_command (aCons (cVar 0) (aCons (cVar 7) (aCons (cC (.int 2)) (aNil))))))
  (sSeq (sSet 11 (cOp fIx (cLst (aCons (cC (.int 0)) (aCons (cC (.int 0)) (aCons (cC (.int 0)) (aCons (cC (.int 1)) (aCons (cC (.int 2)) (aCons (cC (.int 5)) (aNil)))))))) (cCall 2 g_l_pick (aCons (cVar 0) (aCons (cC (.int 6)) (aNil))))))
  (sSeq (sPar [12, 13, 14] (aCons (cOp fAdd (cC (.int 1)) (cCall 2 g_l_pick (aCons (cVar 0) (aCons (cC (.int 4)) (aNil))))) (aCons (cOp fAdd (cC (.int 1)) (cCall 2 g_l_pick (aCons (cVar 0) (aCons (cC (.int 3)) (aNil))))) (aCons (cOp fSub (cCall 2 g_l_pick (aCons (cVar 0) (aCons (cC (.int 7)) (aNil)))) (cC (.int 3))) (aNil)))))
  (sApp 4 (cTup (aCons (cVar 6) (aCons (cVar 9) (aCons (cVar 7) (aCons (cVar 10) (aCons (cVar 8) (aCons (cVar 12) (aCons (cVar 13) (aCons (cVar 11) (aCons (cVar 14) (aNil))))))))))))))))))))
  (sRet (cTup (aCons (cVar 3) (aCons (cCB fTuple (aCons (cSortO 4) (aNil))) (aNil)))))))
def g_l_draw_book : List D → (D → Prop) → Prop := fun ds Q => c_l_draw_book (env0 N_l_draw_book ds) (fun _ => Q .non) Q
theorem w_l_draw_book {P : Program} {w : World} {K : PySem.W.Frag} {mg : Str → Option Value} {base : Heap} {f : Addr} {fd : FuncData} (B : Bl mg) (h_l_any_order : Fn P w K mg base 2 2 "_law_any_order" g_l_any_order) (h_l_pick : Fn P w K mg base 1 2 "_law_pick" g_l_pick) (h_l_draw_command : Fn P w K mg base 5 3 "_law_draw_command" g_l_draw_command) (F : FunD K "_law_draw_book" "_law_draw_book" (defArgs s_l_draw_book) (defBody s_l_draw_book) (defScope s_l_draw_book) [] [] f fd) (hm : mg "_law_draw_book" = some (.ref f)) : Fn P w K mg base 6 2 "_law_draw_book" g_l_draw_book := by
  refine ⟨f, fd, _, fn_d F sc_l_draw_book rfl (fun cdv A outer s H E hr => ?_) (fun _ _ _ h => h), hm, F.kp, F.bindsN fun _ _ _ _ _ _ us hl => match us, hl with | [_, _], _ => rfl⟩
  have nd := sc_l_draw_book.nd
  have hu1 := room_u1 hr
  have hu64 := room_u64 hr
  exact ds_cons (ds_set nd (de_sl (de_callN h_l_any_order (hr.mono (by decide)) rfl (dl_cons (dv 0) (dl_cons (de_of (df_lst (dl_cons (de_str) (dl_cons (de_str) (dl_cons (de_str) (dl_cons (de_str) (dl_cons (de_str) (dl_cons (de_str) (dl_cons (de_str) (dl_cons (de_str) (dl_nil))))))))))) (dl_nil)))) (do_none) (do_some (de_add (de_int) (de_callN h_l_pick (hr.mono (by decide)) rfl (dl_cons (dv 0) (dl_cons (dv 1) (dl_nil))))))))
    (ds_cons (ds_parO (ps_par rfl nd rfl rfl (by decide) rfl rfl (pa_cons (de_tuple rfl B.tuple_ (dl_cons (de_of (df_comp (own := [("_law_thing", 15)]) (is := [15]) rfl nd (di_list (de_sl (de_of (df_lst (dl_cons (de_str) (dl_cons (de_str) (dl_nil))))) (do_none) (do_some (de_callN h_l_pick (hr.mono (by decide)) rfl (dl_cons (dv 0) (dl_cons (de_int) (dl_nil))))))) (blkOk_by (by kernel_rfl)) (fun _ _ _ _ _ => dg_name (pg_name nd rfl (by first | exact .inl rfl | exact .inr rfl))) (fun _ _ _ _ _ => dts_nil) (fun _ _ _ _ _ => de_tup (dl_cons (dv 15) (dl_cons (de_callN h_l_pick (hr.mono (by decide)) rfl (dl_cons (dv 0) (dl_cons (de_int) (dl_nil)))) (dl_nil)))))) (dl_nil))) (pa_cons (df_lst (dl_nil)) pa_nil)) rfl) (fun _ _ _ h => h) (fun _ _ _ h => h))
    (ds_cons (ds_for (is := [5, 6]) rfl (di_enum rfl B.enumerate_ (dl_cons (dv 2) (dl_nil))) (dg_tup (is := [5, 6]) rfl (pgs_cons (pg_name nd rfl (by first | exact .inl rfl | exact .inr rfl)) (pgs_cons (pg_name nd rfl (by first | exact .inl rfl | exact .inr rfl)) (pgs_nil)))) (ds_cons (ds_set nd (de_tuple rfl B.tuple_ (dl_cons (de_sorted rfl B.sorted_ (dl_cons (de_of (df_comp (own := [("_law_one", 17)]) (is := [17]) rfl nd (di_list (de_sl (dv 2) (do_none) (do_some (dv 5)))) (blkOk_by (by kernel_rfl)) (fun _ _ _ _ _ => dg_name (pg_name nd rfl (by first | exact .inl rfl | exact .inr rfl))) (fun _ _ _ _ _ => dts_one (dt_eq hu64 (de_callN h_l_pick (hr.mono (by decide)) rfl (dl_cons (dv 0) (dl_cons (de_int) (dl_nil)))) (de_int))) (fun _ _ _ _ _ => dv 17))) (dl_nil))) (dl_nil))))
    (ds_cons (ps_comp (own := [("_law_thing", 15), ("_law_units", 16)]) (is := [15, 16]) rfl nd (di_tup (dv 3)) (blkOk_by (by kernel_rfl)) (fun _ _ _ _ _ => dg_tup (is := [15, 16]) rfl (pgs_cons (pg_name nd rfl (by first | exact .inl rfl | exact .inr rfl)) (pgs_cons (pg_name nd rfl (by first | exact .inl rfl | exact .inr rfl)) (pgs_nil)))) (fun _ _ _ _ _ => dts_one (dt_w (dw_and (dt_gt (dv 16) (de_int)) (dw_and1 (dt_eq hu64 (de_callN h_l_pick (hr.mono (by decide)) rfl (dl_cons (dv 0) (dl_cons (de_int) (dl_nil)))) (de_int)))))) (fun _ _ _ _ _ => de_tup (dl_cons (dv 15) (dl_cons (dv 16) (dl_nil)))))
    (ds_cons (ds_set nd (de_tuple rfl B.tuple_ (dl_cons (de_of (df_comp (own := [("_law_thing", 15), ("_law_units", 16)]) (is := [15, 16]) rfl nd (di_list (dv 8)) (blkOk_by (by kernel_rfl)) (fun _ _ _ _ _ => dg_tup (is := [15, 16]) rfl (pgs_cons (pg_name nd rfl (by first | exact .inl rfl | exact .inr rfl)) (pgs_cons (pg_name nd rfl (by first | exact .inl rfl | exact .inr rfl)) (pgs_nil)))) (fun _ _ _ _ _ => dts_nil) (fun _ _ _ _ _ => de_tup (dl_cons (dv 15) (dl_cons (de_add (de_int) (de_callN h_l_pick (hr.mono (by decide)) rfl (dl_cons (dv 0) (dl_cons (dv 16) (dl_nil))))) (dl_nil)))))) (dl_nil))))
    (ds_cons (ds_set nd (de_ix (de_of (df_lst (dl_cons (de_str) (dl_cons (de_str) (dl_cons (de_str) (dl_nil)))))) (de_callN h_l_pick (hr.mono (by decide)) rfl (dl_cons (dv 0) (dl_cons (de_int) (dl_nil))))))
    (ds_cons (ds_set nd (de_callN h_l_draw_command (hr.mono (by decide)) rfl (dl_cons (dv 0) (dl_cons (dv 7) (dl_cons (de_int) (dl_nil))))))
    (ds_cons (ds_set nd (de_ix (de_of (df_lst (dl_cons (de_int) (dl_cons (de_int) (dl_cons (de_int) (dl_cons (de_int) (dl_cons (de_int) (dl_cons (de_int) (dl_nil))))))))) (de_callN h_l_pick (hr.mono (by decide)) rfl (dl_cons (dv 0) (dl_cons (de_int) (dl_nil))))))
    (ds_cons (ds_par3 (ps_par3 rfl nd rfl rfl rfl (by decide) (by decide) (by decide) rfl rfl rfl (dl_cons (de_add (de_int) (de_callN h_l_pick (hr.mono (by decide)) rfl (dl_cons (dv 0) (dl_cons (de_int) (dl_nil))))) (dl_cons (de_add (de_int) (de_callN h_l_pick (hr.mono (by decide)) rfl (dl_cons (dv 0) (dl_cons (de_int) (dl_nil))))) (dl_cons (de_sub (de_callN h_l_pick (hr.mono (by decide)) rfl (dl_cons (dv 0) (dl_cons (de_int) (dl_nil)))) (de_int)) (dl_nil)))) rfl) (fun _ _ _ h => h))
    (ds_one (ds_app (pv 4) (de_tup (dl_cons (dv 6) (dl_cons (dv 9) (dl_cons (dv 7) (dl_cons (dv 10) (dl_cons (dv 8) (dl_cons (dv 12) (dl_cons (dv 13) (dl_cons (dv 11) (dl_cons (dv 14) (dl_nil)))))))))))))))))))))
    (ds_one (ds_ret (de_tup (dl_cons (dv 3) (dl_cons (de_tuple rfl B.tuple_ (dl_cons (de_sortO rfl B.sorted_ (pv 4)) (dl_nil))) (dl_nil))))))))
end E64
namespace E64
open PySem PySem.Spec PyProof.Rows L2
/-! law follows -/
abbrev s_l_follows : Stmt := top 50
abbrev N_l_follows : List Str := ["_law_own", "_law_store", "_law_left_here", "_law_names", "_law_name", "_law_told", "_law_due", "_law_job_here", "_law_thing", "_law_units"]
theorem sc_l_follows : FnScope N_l_follows ["_law_own", "_law_store"] (defScope s_l_follows) := C8.fnScope_by (by decide +kernel)
def c_l_follows : CS := sSeq (sSet 2 (cCall 1 g_l_left (aCons (cVar 0) (aNil))))
  (sSeq (sIf (cTest (cOp fNe (cCB fRepr (aCons (cCall 1 g_free_units (aCons (cVar 1) (aNil))) (aNil))) (cCB fRepr (aCons (cCB fTuple (aCons (cComp (wTup (cOp fIx (cDGet (cVar 0) (cC (.str "book"))) (cC (.int 0)))) [8, 9] (gT [8, 9]) (bYes) (cTup (aCons (cVar 8) (aCons (cDGet (cVar 2) (cVar 8)) (aNil))))) (aNil))) (aNil))))) (sRet (cC (.bl false))) (sNil))
  (sSeq (sSet 3 (cComp (wTup (cOp fIx (cDGet (cVar 0) (cC (.str "book"))) (cC (.int 1)))) [7] (gN 7) (bYes) (cOp fIx (cVar 7) (cC (.int 0)))))
  (sSeq (sIf (cTest (cOp fNe (cCB fRepr (aCons (cCall 1 g_still_open (aCons (cVar 1) (aNil))) (aNil))) (cCB fRepr (aCons (cCB fTuple (aCons (cComp (wSeq (cVar 3)) [4] (gN 4) (cTest (cOp fIs (cCall 2 g_l_outcome_of (aCons (cVar 0) (aCons (cVar 4) (aNil)))) (cC .non))) (cVar 4)) (aNil))) (aNil))))) (sRet (cC (.bl false))) (sNil))
  (sSeq (sFor (wSeq (cVar 3)) (gN 4) (sSeq (sSet 5 (cLst (aCons (cCall 2 g_outcome_in (aCons (cVar 1) (aCons (cVar 4) (aNil)))) (aCons (cCall 2 g_results_in (aCons (cVar 1) (aCons (cVar 4) (aNil)))) (aCons (cCall 2 g_attempt_in (aCons (cVar 1) (aCons (cVar 4) (aNil)))) (aCons (cCall 2 g_bars_grant (aCons (cVar 1) (aCons (cVar 4) (aNil)))) (aNil)))))))
  (sSeq (sSet 6 (cLst (aCons (cCall 2 g_l_outcome_of (aCons (cVar 0) (aCons (cVar 4) (aNil)))) (aCons (cCall 2 g_l_values (aCons (cVar 0) (aCons (cVar 4) (aNil)))) (aCons (cOp fAdd (cCB fLen (aCons (cGetN (cDGet (cVar 0) (cC (.str "ends"))) (cVar 4) (cTup (aNil))) (aNil))) (cC (.int 1))) (aCons (cCall 2 g_l_hindered (aCons (cVar 0) (aCons (cVar 4) (aNil)))) (aNil)))))))
  (sSeq (sIf (cOr (cTest (cOp fNe (cCB fRepr (aCons (cVar 5) (aNil))) (cCB fRepr (aCons (cVar 6) (aNil))))) (cTest (cOp fNe (cCB fRepr (aCons (cCall 2 g_bar_need (aCons (cVar 1) (aCons (cVar 4) (aNil)))) (aNil))) (cCB fRepr (aCons (cCall 2 g_l_barring (aCons (cVar 0) (aCons (cVar 4) (aNil)))) (aNil)))))) (sRet (cC (.bl false))) (sNil))
  (sIf (cTest (cOp fNe (cCall 2 g_has_ended (aCons (cVar 1) (aCons (cVar 4) (aNil)))) (cOp fIsNot (cOp fIx (cVar 6) (cC (.int 0))) (cC .non)))) (sRet (cC (.bl false))) (sNil))))))
  (sRet (cC (.bl true)))))))
def g_l_follows : List D → (D → Prop) → Prop := fun ds Q => c_l_follows (env0 N_l_follows ds) (fun _ => Q .non) Q
theorem w_l_follows {P : Program} {w : World} {K : PySem.W.Frag} {mg : Str → Option Value} {base : Heap} {f : Addr} {fd : FuncData} (B : Bl mg) (h_l_left : Fn P w K mg base 2 1 "_law_left" g_l_left) (h_free_units : Fn P w K mg base 2 1 "free_units" g_free_units) (h_still_open : Fn P w K mg base 4 1 "still_open" g_still_open) (h_l_outcome_of : Fn P w K mg base 2 2 "_law_outcome_of" g_l_outcome_of) (h_bars_grant : Fn P w K mg base 5 2 "bars_grant" g_bars_grant) (h_attempt_in : Fn P w K mg base 2 2 "attempt_in" g_attempt_in) (h_results_in : Fn P w K mg base 4 2 "results_in" g_results_in) (h_outcome_in : Fn P w K mg base 2 2 "outcome_in" g_outcome_in) (h_l_hindered : Fn P w K mg base 4 2 "_law_hindered" g_l_hindered) (h_l_values : Fn P w K mg base 3 2 "_law_values" g_l_values) (h_bar_need : Fn P w K mg base 5 2 "bar_need" g_bar_need) (h_l_barring : Fn P w K mg base 4 2 "_law_barring" g_l_barring) (h_has_ended : Fn P w K mg base 3 2 "has_ended" g_has_ended) (F : FunD K "_law_follows" "_law_follows" (defArgs s_l_follows) (defBody s_l_follows) (defScope s_l_follows) [] [] f fd) (hm : mg "_law_follows" = some (.ref f)) : FnGn P w K mg base 6 2 "_law_follows" g_l_follows := by
  refine ⟨f, fd, _, fnG_d F sc_l_follows rfl (fun cdv A outer s H E hr hgd => ?_) (fun _ _ _ h => h), hm, F.kp, F.bindsN fun _ _ _ _ _ _ us hl => match us, hl with | [_, _], _ => rfl⟩
  have nd := sc_l_follows.nd
  have hu1 := room_u1 hr
  have hu64 := room_u64 hr
  have hu70 := room_u70 hr
  exact ds_cons (ds_set nd (de_callN h_l_left (hr.mono (by decide)) rfl (dl_cons (dv 0) (dl_nil))))
    (ds_cons (ds_if (dt_ne hu64 (de_repr hgd hu70 rfl B.repr_ (dl_cons (de_callN h_free_units (hr.mono (by decide)) rfl (dl_cons (dv 1) (dl_nil))) (dl_nil))) (de_repr hgd hu70 rfl B.repr_ (dl_cons (de_tuple rfl B.tuple_ (dl_cons (de_of (df_comp (own := [("_law_thing", 8), ("_law_units", 9)]) (is := [8, 9]) rfl nd (di_tup (de_ix (de_dget hu1 (dv 0) (de_str)) (de_int))) (blkOk_by (by kernel_rfl)) (fun _ _ _ _ _ => dg_tup (is := [8, 9]) rfl (pgs_cons (pg_name nd rfl (by first | exact .inl rfl | exact .inr rfl)) (pgs_cons (pg_name nd rfl (by first | exact .inl rfl | exact .inr rfl)) (pgs_nil)))) (fun _ _ _ _ _ => dts_nil) (fun _ _ _ _ _ => de_tup (dl_cons (dv 8) (dl_cons (de_dget hu1 (dv 2) (dv 8)) (dl_nil)))))) (dl_nil))) (dl_nil)))) (ds_one (ds_ret (de_bl))) (ds_nil))
    (ds_cons (ps_comp (own := [("_law_job_here", 7)]) (is := [7]) rfl nd (di_tup (de_ix (de_dget hu1 (dv 0) (de_str)) (de_int))) (blkOk_by (by kernel_rfl)) (fun _ _ _ _ _ => dg_name (pg_name nd rfl (by first | exact .inl rfl | exact .inr rfl))) (fun _ _ _ _ _ => dts_nil) (fun _ _ _ _ _ => de_ix (dv 7) (de_int)))
    (ds_cons (ds_if (dt_ne hu64 (de_repr hgd hu70 rfl B.repr_ (dl_cons (de_callN h_still_open (hr.mono (by decide)) rfl (dl_cons (dv 1) (dl_nil))) (dl_nil))) (de_repr hgd hu70 rfl B.repr_ (dl_cons (de_tuple rfl B.tuple_ (dl_cons (de_of (df_comp (own := [("_law_name", 4)]) (is := [4]) rfl nd (di_list (dv 3)) (blkOk_by (by kernel_rfl)) (fun _ _ _ _ _ => dg_name (pg_name nd rfl (by first | exact .inl rfl | exact .inr rfl))) (fun _ _ _ _ _ => dts_one (dt_is (de_callN h_l_outcome_of (hr.mono (by decide)) rfl (dl_cons (dv 0) (dl_cons (dv 4) (dl_nil)))) (de_non))) (fun _ _ _ _ _ => dv 4))) (dl_nil))) (dl_nil)))) (ds_one (ds_ret (de_bl))) (ds_nil))
    (ds_cons (ds_for (is := [4]) rfl (di_list (dv 3)) (dg_name (pg_name nd rfl (by first | exact .inl rfl | exact .inr rfl))) (ds_cons (ds_set nd (de_of (df_lst (dl_cons (de_callN h_outcome_in (hr.mono (by decide)) rfl (dl_cons (dv 1) (dl_cons (dv 4) (dl_nil)))) (dl_cons (de_callN h_results_in (hr.mono (by decide)) rfl (dl_cons (dv 1) (dl_cons (dv 4) (dl_nil)))) (dl_cons (de_callN h_attempt_in (hr.mono (by decide)) rfl (dl_cons (dv 1) (dl_cons (dv 4) (dl_nil)))) (dl_cons (de_callN h_bars_grant (hr.mono (by decide)) rfl (dl_cons (dv 1) (dl_cons (dv 4) (dl_nil)))) (dl_nil))))))))
    (ds_cons (ds_set nd (de_of (df_lst (dl_cons (de_callN h_l_outcome_of (hr.mono (by decide)) rfl (dl_cons (dv 0) (dl_cons (dv 4) (dl_nil)))) (dl_cons (de_callN h_l_values (hr.mono (by decide)) rfl (dl_cons (dv 0) (dl_cons (dv 4) (dl_nil)))) (dl_cons (de_add (de_len rfl B.len_ (dl_cons (de_getN hu1 (de_dget hu1 (dv 0) (de_str)) (dv 4) (de_tup (dl_nil))) (dl_nil))) (de_int)) (dl_cons (de_callN h_l_hindered (hr.mono (by decide)) rfl (dl_cons (dv 0) (dl_cons (dv 4) (dl_nil)))) (dl_nil))))))))
    (ds_cons (ds_if (dt_w (dw_or (dt_ne hu64 (de_repr hgd hu70 rfl B.repr_ (dl_cons (dv 5) (dl_nil))) (de_repr hgd hu70 rfl B.repr_ (dl_cons (dv 6) (dl_nil)))) (dw_or1 (dt_ne hu64 (de_repr hgd hu70 rfl B.repr_ (dl_cons (de_callN h_bar_need (hr.mono (by decide)) rfl (dl_cons (dv 1) (dl_cons (dv 4) (dl_nil)))) (dl_nil))) (de_repr hgd hu70 rfl B.repr_ (dl_cons (de_callN h_l_barring (hr.mono (by decide)) rfl (dl_cons (dv 0) (dl_cons (dv 4) (dl_nil)))) (dl_nil))))))) (ds_one (ds_ret (de_bl))) (ds_nil))
    (ds_one (ds_if (dt_ne hu64 (de_callN h_has_ended (hr.mono (by decide)) rfl (dl_cons (dv 1) (dl_cons (dv 4) (dl_nil)))) (de_isnot (de_ix (dv 6) (de_int)) (de_non))) (ds_one (ds_ret (de_bl))) (ds_nil)))))))
    (ds_one (ds_ret (de_bl)))))))
end E64
/-! what the combinators do, as rows for simp -/
namespace E64
open PySem PySem.Spec PyProof.Rows L2
/-- d is a bool, and P of it -/
def isB (d : D) (P : Bool → Prop) : Prop := ∃ b, d = .bl b ∧ P b
@[simp] theorem isB_bl (b : Bool) (P : Bool → Prop) : isB (.bl b) P = P b := propext ⟨fun ⟨c, e, h⟩ => by cases e; exact h, fun h => ⟨b, rfl, h⟩⟩
section
variable {env : Env} {Q : D → Prop} {QL : List D → Prop} {QB : Bool → Prop} {Nx : Env → Prop} {Rt : D → Prop}
@[simp] theorem x_seq (a b : CS) : sSeq a b env Nx Rt = a env (fun e => b e Nx Rt) Rt := propext Iff.rfl
@[simp] theorem x_nil : sNil env Nx Rt = Nx env := propext Iff.rfl
@[simp] theorem x_ret (c : C) : sRet c env Nx Rt = c env Rt := propext Iff.rfl
@[simp] theorem x_if (t : CB) (a b : CS) : sIf t a b env Nx Rt = t env fun x => if x = true then a env Nx Rt else b env Nx Rt := propext Iff.rfl
@[simp] theorem x_set (i : Nat) (c : C) : sSet i c env Nx Rt = c env fun d => Nx (env.put i d) := propext Iff.rfl
@[simp] theorem x_asg (c : C) (g : CG) : sAsg c g env Nx Rt = c env fun d => g d env Nx := propext Iff.rfl
@[simp] theorem x_par (is : List Nat) (ca : CA) : sPar is ca env Nx Rt = ca env fun ds => ds.length = is.length ∧ Nx (putsD env is ds) := propext Iff.rfl
@[simp] theorem x_c (d : D) : cC d env Q = Q d := propext Iff.rfl
@[simp] theorem x_op (f : D → D → (D → Prop) → Prop) (a b : C) : cOp f a b env Q = a env fun x => b env fun y => f x y Q := propext Iff.rfl
@[simp] theorem x_un (f : D → (D → Prop) → Prop) (a : C) : cUn f a env Q = a env fun x => f x Q := propext Iff.rfl
@[simp] theorem x_tup (cs : CA) : cTup cs env Q = cs env fun ds => ds.length ≤ 100000 ∧ Q (.tup ds) := propext Iff.rfl
@[simp] theorem x_lst (cs : CA) : cLst cs env Q = cs env fun ds => ds.length ≤ 100000 ∧ Q (.lst ds) := propext Iff.rfl
@[simp] theorem x_anil : aNil env QL = QL [] := propext Iff.rfl
@[simp] theorem x_acons (c : C) (r : CA) : aCons c r env QL = c env fun d => r env fun ds => QL (d :: ds) := propext Iff.rfl
@[simp] theorem x_cb (f : List D → (D → Prop) → Prop) (ca : CA) : cCB f ca env Q = ca env fun ds => f ds Q := propext Iff.rfl
@[simp] theorem x_call (n : Nat) (f : List D → (D → Prop) → Prop) (ca : CA) : cCall n f ca env Q = ca env fun ds => ds.length = n ∧ f ds Q := propext Iff.rfl
@[simp] theorem x_ifE (t : CB) (a b : C) : cIf t a b env Q = t env fun x => if x = true then a env Q else b env Q := propext Iff.rfl
@[simp] theorem x_test (c : C) : cTest c env QB = c env fun d => isB d QB := propext Iff.rfl
@[simp] theorem x_and (a b : CB) : cAnd a b env QB = a env fun x => if x = true then b env QB else QB false := propext Iff.rfl
@[simp] theorem x_or (a b : CB) : cOr a b env QB = a env fun x => if x = true then QB true else b env QB := propext Iff.rfl
@[simp] theorem x_not (a : CB) : cNot a env QB = a env fun x => QB (!x) := propext Iff.rfl
@[simp] theorem x_andV (a b : C) : cAndV a b env Q = a env fun d => isB d fun x => if x = true then b env Q else Q (.bl false) := propext Iff.rfl
@[simp] theorem x_orV (a b : C) : cOrV a b env Q = a env fun d => isB d fun x => if x = true then Q (.bl true) else b env Q := propext Iff.rfl
@[simp] theorem x_yes : bYes env QB = QB true := propext Iff.rfl
@[simp] theorem x_dget (a b : C) : cDGet a b env Q = a env fun x => b env fun y => fDGet x y Q := propext Iff.rfl
@[simp] theorem x_din (a b : C) : cDIn a b env QB = a env fun x => b env fun y => fDIn x y QB := propext Iff.rfl
@[simp] theorem x_sl (a : C) (l h : CO) : cSl a l h env Q = a env fun x => l env fun lo => h env fun hi => fSl x lo hi Q := propext Iff.rfl
@[simp] theorem x_onone {QO : Option Int → Prop} : oNone env QO = QO none := propext Iff.rfl
@[simp] theorem x_osome {QO : Option Int → Prop} (c : C) : oSome c env QO = c env fun d => ∃ i, d = .int i ∧ QO (some i) := propext Iff.rfl
@[simp] theorem x_comp (ci : CA) (vs : List Nat) (g : CG) (ct : CB) (ce : C) : cComp ci vs g ct ce env Q = ci env fun ds => compW g ct ce (wipeE env vs) ds [] fun acc => Q (.lst acc) := propext Iff.rfl
@[simp] theorem x_seqI (c : C) : wSeq c env QL = c env fun d => match d with | .lst ds => QL ds | _ => False := propext Iff.rfl
@[simp] theorem x_tupI (c : C) : wTup c env QL = c env fun d => match d with | .tup ds => QL ds | _ => False := propext Iff.rfl
@[simp] theorem x_gN (i : Nat) (d : D) : gN i d env Nx = Nx (env.put i d) := propext Iff.rfl
@[simp] theorem x_gT (is : List Nat) (ds : List D) : gT is (.tup ds) env Nx = (ds.length = is.length ∧ Nx (putsD env is ds)) := propext Iff.rfl
@[simp] theorem x_gTp (is : List Nat) (ds : List D) : gT is (.prs ds) env Nx = (ds.length = is.length ∧ Nx (putsD env is ds)) := propext Iff.rfl
@[simp] theorem x_gU (is : List Nat) (ds : List D) : gU is (.lst ds) env Nx = (ds.length = is.length ∧ Nx (putsD env is ds)) := propext Iff.rfl
@[simp] theorem x_for (ci : CA) (g : CG) (cb : CS) : sFor ci g cb env Nx Rt = ci env fun ds => forW g cb ds env Nx Rt := propext Iff.rfl
end
section
variable {sl : List (Option D)} {ow : Option (Nat × D)} {Q : D → Prop}
theorem x_var (i : Nat) : cVar i ⟨sl, ow⟩ Q = ∃ d, sl[i]? = some (some d) ∧ Q d := propext Iff.rfl
theorem x_put (i : Nat) (d : D) : (Env.mk sl none).put i d = ⟨sl.set i (some d), none⟩ := rfl
theorem x_putO (i j : Nat) (d o : D) : (Env.mk sl (some (j, o))).put i d = ⟨sl.set i (some d), if j = i then none else some (j, o)⟩ := rfl
@[simp] theorem x_puts0 (e : Env) (ds : List D) : putsD e [] ds = e := by cases ds <;> rfl
@[simp] theorem x_puts1 (e : Env) (i : Nat) (is : List Nat) (d : D) (ds : List D) : putsD e (i :: is) (d :: ds) = putsD (e.put i d) is ds := rfl
end
@[simp] theorem x_add (i j : Int) (Q : D → Prop) : fAdd (.int i) (.int j) Q = Q (.int (i + j)) := propext Iff.rfl
@[simp] theorem x_addT (xs ys : List D) (Q : D → Prop) : fAdd (.tup xs) (.tup ys) Q = (xs.length + ys.length ≤ 100000 ∧ Q (.tup (xs ++ ys))) := propext Iff.rfl
@[simp] theorem x_addL (xs ys : List D) (Q : D → Prop) : fAdd (.lst xs) (.lst ys) Q = (xs.length + ys.length ≤ 100000 ∧ Q (.lst (xs ++ ys))) := propext Iff.rfl
@[simp] theorem x_sub (i j : Int) (Q : D → Prop) : fSub (.int i) (.int j) Q = Q (.int (i - j)) := propext Iff.rfl
@[simp] theorem x_lt (i j : Int) (Q : D → Prop) : fLt (.int i) (.int j) Q = Q (.bl (decide (i < j))) := propext Iff.rfl
@[simp] theorem x_le (i j : Int) (Q : D → Prop) : fLe (.int i) (.int j) Q = Q (.bl (decide (i ≤ j))) := propext Iff.rfl
@[simp] theorem x_gt (i j : Int) (Q : D → Prop) : fGt (.int i) (.int j) Q = Q (.bl (decide (j < i))) := propext Iff.rfl
@[simp] theorem x_ge (i j : Int) (Q : D → Prop) : fGe (.int i) (.int j) Q = Q (.bl (decide (j ≤ i))) := propext Iff.rfl
@[simp] theorem x_is (d : D) (Q : D → Prop) : fIs d .non Q = Q (.bl (isN d)) := by cases d <;> exact propext Iff.rfl
@[simp] theorem x_isnot (d : D) (Q : D → Prop) : fIsNot d .non Q = Q (.bl (!isN d)) := by cases d <;> exact propext Iff.rfl
@[simp] theorem x_neg (i : Int) (Q : D → Prop) : fNeg (.int i) Q = Q (.int (-i)) := propext Iff.rfl
@[simp] theorem x_eqI (i j : Int) (Q : D → Prop) : fEq (.int i) (.int j) Q = Q (.bl (decide (i = j))) := propext Iff.rfl
@[simp] theorem x_eqS (i j : Str) (Q : D → Prop) : fEq (.str i) (.str j) Q = Q (.bl (decide (i = j))) := propext Iff.rfl
@[simp] theorem x_neI (i j : Int) (Q : D → Prop) : fNe (.int i) (.int j) Q = Q (.bl (!decide (i = j))) := propext Iff.rfl
@[simp] theorem x_neS (i j : Str) (Q : D → Prop) : fNe (.str i) (.str j) Q = Q (.bl (!decide (i = j))) := propext Iff.rfl
@[simp] theorem x_isNn : isN .non = true := rfl
@[simp] theorem x_isNt (ds : List D) : isN (.tup ds) = false := rfl
@[simp] theorem x_isNs (s : Str) : isN (.str s) = false := rfl
@[simp] theorem x_isNi (i : Int) : isN (.int i) = false := rfl
@[simp] theorem x_lenT (ds : List D) (Q : D → Prop) : fLen [.tup ds] Q = Q (.int ds.length) := propext Iff.rfl
@[simp] theorem x_lenL (ds : List D) (Q : D → Prop) : fLen [.lst ds] Q = Q (.int ds.length) := propext Iff.rfl
@[simp] theorem x_tupL (ds : List D) (Q : D → Prop) : fTuple [.lst ds] Q = Q (.tup ds) := propext Iff.rfl
@[simp] theorem x_tupT (ds : List D) (Q : D → Prop) : fTuple [.tup ds] Q = Q (.tup ds) := propext Iff.rfl
@[simp] theorem x_listL (ds : List D) (Q : D → Prop) : fList [.lst ds] Q = Q (.lst ds) := propext Iff.rfl
@[simp] theorem x_listT (ds : List D) (Q : D → Prop) : fList [.tup ds] Q = Q (.lst ds) := propext Iff.rfl
@[simp] theorem x_listD (kvs : List (Str × D)) (Q : D → Prop) : fList [.dct kvs] Q = Q (.lst (kvs.map fun p => .str p.1)) := propext Iff.rfl
@[simp] theorem x_dictD (kvs : List (Str × D)) (Q : D → Prop) : fDict [.dct kvs] Q = Q (.dct kvs) := propext Iff.rfl
@[simp] theorem x_intI (i : Int) (Q : D → Prop) : fInt [.int i] Q = Q (.int i) := propext Iff.rfl
@[simp] theorem x_intB (b : Bool) (Q : D → Prop) : fInt [.bl b] Q = Q (.int (if b then 1 else 0)) := propext Iff.rfl
@[simp] theorem x_max (i j : Int) (Q : D → Prop) : fMax [.int i, .int j] Q = Q (.int (if j > i then j else i)) := propext Iff.rfl
@[simp] theorem x_dgetS (kvs : List (Str × D)) (k : Str) (Q : D → Prop) : fDGet (.dct kvs) (.str k) Q = ∃ d, lk k kvs = some d ∧ Q d := propext Iff.rfl
@[simp] theorem x_dinS (kvs : List (Str × D)) (k : Str) (Q : Bool → Prop) : fDIn (.str k) (.dct kvs) Q = Q (lk k kvs).isSome := propext Iff.rfl
@[simp] theorem x_pick (m : Int) (Q : D → Prop) : g_l_pick [.src, .int m] Q = (m < 1000000 ∧ ∀ r : Int, 0 ≤ r → (r < m ∨ r = 0) → Q (.int r)) := propext Iff.rfl
@[simp] theorem x_ixT (ds : List D) (i : Int) (Q : D → Prop) : fIx (.tup ds) (.int i) Q = ∃ d, atI ds i = some d ∧ Q d := propext Iff.rfl
@[simp] theorem x_ixL (ds : List D) (i : Int) (Q : D → Prop) : fIx (.lst ds) (.int i) Q = ∃ d, atI ds i = some d ∧ Q d := propext Iff.rfl
theorem atI_in {ds : List D} {r : Int} (h0 : 0 ≤ r) (h1 : r < ds.length) : ∃ d, atI ds r = some d ∧ d ∈ ds := by
  unfold atI ixN
  rw [if_pos h0, if_pos h1]
  have hn : r.toNat < ds.length := by omega
  exact ⟨ds[r.toNat], by show ds[r.toNat]? = _; exact List.getElem?_eq_getElem hn, List.getElem_mem _⟩
@[simp] theorem x_env (N : List Str) (ds : List D) : env0 N ds = ⟨ds.map some ++ List.replicate (N.length - ds.length) none, none⟩ := rfl
@[simp high] theorem x_exi {x : Int} {P : Int → Prop} : (∃ b, D.int x = .int b ∧ P b) = P x := propext ⟨fun ⟨b, e, h⟩ => by cases e; exact h, fun h => ⟨x, rfl, h⟩⟩
@[simp high] theorem x_exs {x : Str} {P : Str → Prop} : (∃ b, D.str x = .str b ∧ P b) = P x := propext ⟨fun ⟨b, e, h⟩ => by cases e; exact h, fun h => ⟨x, rfl, h⟩⟩
@[simp high] theorem x_exd {x : List (Str × D)} {P : List (Str × D) → Prop} : (∃ b, D.dct x = .dct b ∧ P b) = P x := propext ⟨fun ⟨b, e, h⟩ => by cases e; exact h, fun h => ⟨x, rfl, h⟩⟩
@[simp high] theorem x_exo {α : Type} {x : α} {P : α → Prop} : (∃ b, some x = some b ∧ P b) = P x := propext ⟨fun ⟨b, e, h⟩ => by cases e; exact h, fun h => ⟨x, rfl, h⟩⟩
@[simp high] theorem x_exo2 {α : Type} {x : α} {P : α → Prop} : (∃ b, some (some x) = some (some b) ∧ P b) = P x := propext ⟨fun ⟨b, e, h⟩ => by cases e; exact h, fun h => ⟨x, rfl, h⟩⟩
@[simp] theorem x_cW0 (g : CG) (ct : CB) (ce : C) (env : Env) (acc : List D) (Q : List D → Prop) : compW g ct ce env [] acc Q = Q acc := propext Iff.rfl
@[simp] theorem x_cW1 (g : CG) (ct : CB) (ce : C) (env : Env) (d : D) (ds acc : List D) (Q : List D → Prop) : compW g ct ce env (d :: ds) acc Q = g d env fun env1 => ct env1 fun b => if b = true then ce env1 fun x => acc.length < 100000 ∧ compW g ct ce env ds (acc ++ [x]) Q else compW g ct ce env ds acc Q := propext Iff.rfl
@[simp] theorem x_fW0 (g : CG) (cb : CS) (env : Env) (Nx : Env → Prop) (Rt : D → Prop) : forW g cb [] env Nx Rt = Nx env := propext Iff.rfl
@[simp] theorem x_fW1 (g : CG) (cb : CS) (d : D) (ds : List D) (env : Env) (Nx : Env → Prop) (Rt : D → Prop) : forW g cb (d :: ds) env Nx Rt = g d env fun env1 => cb env1 (fun env2 => forW g cb ds env2 Nx Rt) Rt := propext Iff.rfl
@[simp] theorem x_rng (ca : CA) (env : Env) (QL : List D → Prop) : wRng ca env QL = ca env fun ds => match ds with | [.int j] => (-1000000 < j ∧ j < 1000000) ∧ QL (rngD j.toNat) | _ => False := propext Iff.rfl
theorem x_wipe0 (e : Env) : wipeE e [] = e := rfl
theorem x_wipe1 (e : Env) (v : Nat) (h : e.ow = none) : wipeE e [v] = ⟨e.sl.set v none, none⟩ := by
  unfold wipeE; simp only [wipeE, h]
theorem x_wipe2 (e : Env) (v w : Nat) (h : e.ow = none) : wipeE e [v, w] = ⟨(e.sl.set w none).set v none, none⟩ := by
  simp only [wipeE, h]
/-- the truth of d -/
def isTr (d : D) (QB : Bool → Prop) : Prop := match d with
  | .lst ds => QB (!ds.isEmpty)
  | .tup ds => QB (!ds.isEmpty)
  | .bl b => QB b
  | .non => QB false
  | _ => False
@[simp] theorem isTr_b (b : Bool) (P : Bool → Prop) : isTr (.bl b) P = P b := rfl
@[simp] theorem isTr_l (ds : List D) (P : Bool → Prop) : isTr (.lst ds) P = P (!ds.isEmpty) := rfl
@[simp] theorem isTr_t (ds : List D) (P : Bool → Prop) : isTr (.tup ds) P = P (!ds.isEmpty) := rfl
@[simp] theorem isTr_n (P : Bool → Prop) : isTr .non P = P false := rfl
@[simp] theorem x_tru (c : C) (env : Env) (QB : Bool → Prop) : cTru c env QB = c env fun d => isTr d QB := by
  unfold cTru isTr
  exact congrArg (c env) (funext fun x => by cases x <;> rfl)
/-- a value of the draw -/
theorem v_value {Q : D → Prop} (h : ∀ d, no9 d = true → Q d) : g_l_draw_value [.src] Q := by
  unfold g_l_draw_value c_l_draw_value
  simp [x_var, fPow]
  intro r h0 h1
  obtain ⟨d, e, hd⟩ := atI_in (ds := [.non, .int 0, .int 1, .int 2, .int 3, .int (-1), .int 7, .str "a", .str "b", .str "ab 1", .str "", .int 1000000]) (r := r) h0 (by simp only [List.length_cons, List.length_nil]; omega)
  refine ⟨d, e, h d ?_⟩
  simp only [List.mem_cons, List.not_mem_nil, or_false] at hd
  rcases hd with rfl | rfl | rfl | rfl | rfl | rfl | rfl | rfl | rfl | rfl | rfl | rfl <;> simp [no9]
end E64
/-! commands -/
namespace E64
open PySem PySem.Spec PyProof.Rows L2
theorem rng2 : rngD 2 = [.int 0, .int 1] := by simp [rngD, List.range, List.range.loop]
theorem v_cmd {rec : List D → (D → Prop) → Prop} {ns : List D} {m : Int} {Q : D → Prop} (hQ : ∀ xs, no9L xs = true → Q (.tup xs)) (hn : ns.length < 1000 ∧ no9L ns = true) (hr : 0 < m → ∀ Q, (∀ xs, no9L xs = true → Q (.tup xs)) → rec [.src, .tup ns, .int (m - 1)] Q) :
    c_l_draw_command rec (env0 N_l_draw_command [.src, .tup ns, .int m]) (fun _ => Q .non) Q := by
  unfold c_l_draw_command
  simp [x_var, x_put, rng2, x_wipe1]
  have hv : ∀ {w : Str}, g_l_draw_value [.src] fun d => Q (.tup [.str w, d]) := v_value fun _ hd => hQ _ (by simp [no9L, no9, hd])
  have low : ∀ r : Int, 0 ≤ r → r < 4 → (if r = 0 then g_l_draw_value [D.src] fun d => Q (D.tup [D.str "value", d])
          else if r = 1 then Q (D.tup [D.str "attempt"])
            else if 0 < ns.length then (ns.length : Int) < 1000000 ∧ ∀ (r : Int), 0 ≤ r → r < (ns.length : Int) ∨ r = 0 → ∃ d, atI ns r = some d ∧ if isN d = true then g_l_draw_value [D.src] fun d => Q (D.tup [D.str "value", d]) else Q (D.tup [D.str "result", d])
                else g_l_draw_value [D.src] fun d => Q (D.tup [D.str "value", d])) := by
    intro r h0 h1
    split
    · exact hv
    split
    · exact hQ _ (by simp [no9L, no9])
    split
    · refine ⟨by omega, fun q g0 g1 => ?_⟩
      obtain ⟨d, e, hdn⟩ := atI_in (ds := ns) (r := q) g0 (by omega)
      refine ⟨d, e, ?_⟩
      split
      · exact hv
      · exact hQ _ (by simp [no9L, no9, no9L_mem hn.2 d hdn])
    · exact hv
  split
  · rename_i hm
    intro r h0 h1
    by_cases h4 : r < 4
    · have := low r h0 h4
      simp only [if_pos h4]
      exact this
    rw [if_neg (by omega), if_neg (by omega), if_neg h4]
    refine hr hm _ fun xs hxs => hr hm _ fun ys hys => ?_
    split
    · exact hr hm _ fun zs hzs => hQ _ (by simp [no9L, no9, hxs, hys, hzs])
    split
    · exact fun q _ _ => hQ _ (by simp [no9L, no9, hxs, hys])
    split
    · exact hQ _ (by simp [no9L, no9, hxs, hys])
    intro q g0 g1
    obtain ⟨d, e, hd⟩ := atI_in (ds := [.str "plus", .str "less", .str "times", .str "is", .str "below", .str "and", .str "or", .str "joined", .str "not"]) (r := q) g0 (by simp only [List.length_cons, List.length_nil]; omega)
    refine ⟨d, e, ?_⟩
    simp only [List.mem_cons, List.not_mem_nil, or_false] at hd
    rcases hd with rfl | rfl | rfl | rfl | rfl | rfl | rfl | rfl | rfl <;> simp only [x_eqS, isB_bl] <;> (repeat' (first | exact hQ _ (by simp [no9L, no9, hxs, hys]) | exact fun _ _ _ => hQ _ (by simp [no9L, no9, hxs, hys]) | split))
  · rename_i hm
    intro r h0 h1
    have h4 : r < 4 := by omega
    have := low r h0 h4
    simp only [if_pos h4]
    exact this
section
variable {P : Program} {w : World} {K : PySem.W.Frag} {mg : Str → Option Value} {base : Heap} {f : Addr} {fd : FuncData}
def gCmd' : Nat → List D → (D → Prop) → Prop
  | 0 => fun _ _ => False
  | j + 1 => gCmd j
theorem w_cmd (B : Bl mg) (h_l_pick : Fn P w K mg base 1 2 "_law_pick" g_l_pick) (h_l_draw_value : Fn P w K mg base 2 1 "_law_draw_value" g_l_draw_value) (F : FunD K "_law_draw_command" "_law_draw_command" (defArgs s_l_draw_command) (defBody s_l_draw_command) (defScope s_l_draw_command) [] [] f fd) (hm : mg "_law_draw_command" = some (.ref f)) :
    ∀ j : Nat, Fn P w K mg base (j + 2) 3 "_law_draw_command" (gCmd' j)
  | 0 => ⟨f, fd, ["_law_source", "_law_needs", "_law_depth"], ⟨fun vs H Q E h => (by obtain ⟨_, _, _, _, _, _, _, z, _⟩ := h; exact z.elim), fun A outer s H args us vs Q E _ _ _ _ h => (by obtain ⟨_, _, _, _, _, _, _, z, _⟩ := h; exact z.elim)⟩, hm, F.kp, F.bindsN fun _ _ _ _ _ _ us hl => match us, hl with | [_, _, _], _ => rfl⟩
  | j + 1 => by
    have ih := w_cmd B h_l_pick h_l_draw_value F hm j
    refine ⟨f, fd, _, fn_d (cb := c_l_draw_command (gCmd' j)) F sc_l_draw_command rfl (fun cdv A outer s H E hr => b_l_draw_command (fd := fd) (by omega) B h_l_pick h_l_draw_value ih cdv A outer s H E hr) (fun ds Qd hl h => ?_), hm, F.kp, F.bindsN fun _ _ _ _ _ _ us hl => match us, hl with | [_, _, _], _ => rfl⟩
    obtain ⟨ns, m, rfl, ⟨h1, h2⟩, h3⟩ : ∃ ns m, ds = [.src, .tup ns, .int m] ∧ (m ≤ (j : Int) ∧ ns.length < 1000 ∧ no9L ns = true) ∧ ∀ xs, no9L xs = true → Qd (.tup xs) := by
      have h : gCmd j ds Qd := h
      unfold gCmd at h
      split at h
      · exact ⟨_, _, rfl, h.1, h.2⟩
      · exact h.elim

    refine v_cmd h3 h2 fun hpos Q hQ => ?_
    cases j with
    | zero => exfalso; omega
    | succ j => exact ⟨⟨by omega, h2⟩, hQ⟩
theorem w_l_draw_command (B : Bl mg) (h_l_pick : Fn P w K mg base 1 2 "_law_pick" g_l_pick) (h_l_draw_value : Fn P w K mg base 2 1 "_law_draw_value" g_l_draw_value) (F : FunD K "_law_draw_command" "_law_draw_command" (defArgs s_l_draw_command) (defBody s_l_draw_command) (defScope s_l_draw_command) [] [] f fd) (hm : mg "_law_draw_command" = some (.ref f)) :
    Fn P w K mg base 5 3 "_law_draw_command" g_l_draw_command := w_cmd B h_l_pick h_l_draw_value F hm 3
end
end E64
/-! the store as plain data -/
namespace E64
open PySem PySem.Spec PyProof.Rows L2
def alk {α : Type} (k : Str) : List (Str × α) → Option α
  | [] => none
  | (k', v) :: r => if k' = k then some v else alk k r
theorem lk_alk (k : Str) : ∀ l : List (Str × D), lk k l = alk k l
  | [] => rfl
  | (k', v) :: r => by rw [lk_cons, lk_alk k r]; rfl
theorem alk_map {α β : Type} (f : α → β) (k : Str) : ∀ l : List (Str × α), alk k (l.map fun p => (p.1, f p.2)) = (alk k l).map f
  | [] => rfl
  | (k', v) :: r => by
    rw [List.map_cons]
    unfold alk
    rw [alk_map f k r]
    split <;> rfl
structure Job where
  name : Str
  mode : Str
  needs : List Str
  cmd : D
  uses : List (Str × Int)
  len : Int
  tries : Int
  start : Int
  urg : Int
def useD (p : Str × Int) : D := .tup [.str p.1, .int p.2]
def jobD (j : Job) : D := .tup [.str j.name, .str j.mode, .tup (j.needs.map .str), j.cmd, .tup (j.uses.map useD), .int j.len, .int j.tries, .int j.start, .int j.urg]
structure Book where
  things : List (Str × Int)
  jobs : List Job
def bookD (b : Book) : D := .tup [.tup (b.things.map useD), .tup (b.jobs.map jobD)]
structure Hold where
  fence : Int
  mach : Int
  att : Int
  mom : Int
  time : Int
def holdD (h : Hold) : D := .tup [.int h.fence, .int h.mach, .int h.att, .int h.mom, .int h.time]
structure End where
  word : Str
  fence : Int
  mom : Int
  time : Int
  stop : Int
  val : D
def endD (e : End) : D := .tup [.str e.word, .int e.fence, .int e.mom, .int e.time, .int e.stop, e.val]
structure St where
  book : Book
  time : Int
  epoch : Int
  moment : Int
  fence : Int
  holds : List (Str × Hold)
  ends : List (Str × List End)
  barred : List (Str × Str)
  freed : List (Int × List D)
def holdsD (l : List (Str × Hold)) : D := .dct (l.map fun p => (p.1, holdD p.2))
def endsD (l : List (Str × List End)) : D := .dct (l.map fun p => (p.1, .tup (p.2.map endD)))
def barredD (l : List (Str × Str)) : D := .dct (l.map fun p => (p.1, .str p.2))
def freedD (l : List (Int × List D)) : D := .tup (l.map fun p => .tup (.int p.1 :: p.2))
/-- the fields, in the two orders in which they stand -/
def flds (lay : Bool) (s : St) : List (Str × D) := if lay = true then [("book", bookD s.book), ("time", .int s.time), ("epoch", .int s.epoch), ("moment", .int s.moment), ("fence", .int s.fence), ("freed", freedD s.freed), ("holds", holdsD s.holds), ("ends", endsD s.ends), ("barred", barredD s.barred)]
  else [("book", bookD s.book), ("time", .int s.time), ("epoch", .int s.epoch), ("moment", .int s.moment), ("fence", .int s.fence), ("holds", holdsD s.holds), ("ends", endsD s.ends), ("barred", barredD s.barred), ("freed", freedD s.freed)]
def stD (lay : Bool) (s : St) : D := .dct (flds lay s)
section
variable {lay : Bool} {s : St}
theorem lkf (k : Str) : lk k (flds lay s) = if lay = true then lk k [("book", bookD s.book), ("time", .int s.time), ("epoch", .int s.epoch), ("moment", .int s.moment), ("fence", .int s.fence), ("freed", freedD s.freed), ("holds", holdsD s.holds), ("ends", endsD s.ends), ("barred", barredD s.barred)]
  else lk k [("book", bookD s.book), ("time", .int s.time), ("epoch", .int s.epoch), ("moment", .int s.moment), ("fence", .int s.fence), ("holds", holdsD s.holds), ("ends", endsD s.ends), ("barred", barredD s.barred), ("freed", freedD s.freed)] := by unfold flds; split <;> rfl
theorem lk_hit {k : Str} {v : D} {r : List (Str × D)} : lk k ((k, v) :: r) = some v := by rw [lk_cons, if_pos rfl]
theorem lk_miss {k k' : Str} {v : D} {r : List (Str × D)} (h : k' ≠ k) : lk k ((k', v) :: r) = lk k r := by rw [lk_cons, if_neg h]
@[simp] theorem f_book : lk "book" (flds lay s) = some (bookD s.book) := by
  rw [lkf]; split <;> (repeat (first | rw [lk_hit] | rw [lk_miss (by decide +kernel)]))
@[simp] theorem f_time : lk "time" (flds lay s) = some (.int s.time) := by
  rw [lkf]; split <;> (repeat (first | rw [lk_hit] | rw [lk_miss (by decide +kernel)]))
@[simp] theorem f_epoch : lk "epoch" (flds lay s) = some (.int s.epoch) := by
  rw [lkf]; split <;> (repeat (first | rw [lk_hit] | rw [lk_miss (by decide +kernel)]))
@[simp] theorem f_moment : lk "moment" (flds lay s) = some (.int s.moment) := by
  rw [lkf]; split <;> (repeat (first | rw [lk_hit] | rw [lk_miss (by decide +kernel)]))
@[simp] theorem f_fence : lk "fence" (flds lay s) = some (.int s.fence) := by
  rw [lkf]; split <;> (repeat (first | rw [lk_hit] | rw [lk_miss (by decide +kernel)]))
@[simp] theorem f_holds : lk "holds" (flds lay s) = some (holdsD s.holds) := by
  rw [lkf]; split <;> (repeat (first | rw [lk_hit] | rw [lk_miss (by decide +kernel)]))
@[simp] theorem f_ends : lk "ends" (flds lay s) = some (endsD s.ends) := by
  rw [lkf]; split <;> (repeat (first | rw [lk_hit] | rw [lk_miss (by decide +kernel)]))
@[simp] theorem f_barred : lk "barred" (flds lay s) = some (barredD s.barred) := by
  rw [lkf]; split <;> (repeat (first | rw [lk_hit] | rw [lk_miss (by decide +kernel)]))
@[simp] theorem f_freed : lk "freed" (flds lay s) = some (freedD s.freed) := by
  rw [lkf]; split <;> (repeat (first | rw [lk_hit] | rw [lk_miss (by decide +kernel)]))
end
@[simp] theorem lk_holds (k : Str) (l : List (Str × Hold)) : lk k (l.map fun p => (p.1, holdD p.2)) = (alk k l).map holdD := by rw [lk_alk, alk_map]
@[simp] theorem lk_ends (k : Str) (l : List (Str × List End)) : lk k (l.map fun p => (p.1, D.tup (p.2.map endD))) = (alk k l).map fun es => .tup (es.map endD) := by rw [lk_alk, alk_map (fun es : List End => D.tup (es.map endD))]
@[simp] theorem lk_barred (k : Str) (l : List (Str × Str)) : lk k (l.map fun p => (p.1, D.str p.2)) = (alk k l).map D.str := by rw [lk_alk, alk_map D.str]
/-- d is a dict, and P -/
def isDc (d : D) (P : Prop) : Prop := match d with
  | .dct _ => P
  | _ => False
@[simp] theorem isDc_dct (kvs : List (Str × D)) (P : Prop) : isDc (.dct kvs) P ↔ P := Iff.rfl
@[simp] theorem isDc_st (lay : Bool) (s : St) (P : Prop) : isDc (stD lay s) P ↔ P := Iff.rfl
@[simp] theorem isDc_holds (l : List (Str × Hold)) (P : Prop) : isDc (holdsD l) P ↔ P := Iff.rfl
@[simp] theorem isDc_ends (l : List (Str × List End)) (P : Prop) : isDc (endsD l) P ↔ P := Iff.rfl
@[simp] theorem isDc_barred (l : List (Str × Str)) (P : Prop) : isDc (barredD l) P ↔ P := Iff.rfl
@[simp] theorem x_getN (a b c : C) (env : Env) (Q : D → Prop) : cGetN a b c env Q = a env fun x => isDc x (b env fun y => c env fun z => fGetN x y z Q) := by
  unfold cGetN isDc
  exact congrArg (a env) (funext fun x => by cases x <;> rfl)
@[simp] theorem x_get1 (a b : C) (env : Env) (Q : D → Prop) : cGet1 a b env Q = a env fun x => isDc x (b env fun y => fGet1 x y Q) := by
  unfold cGet1 isDc
  exact congrArg (a env) (funext fun x => by cases x <;> rfl)
section
variable {lay : Bool} {s : St} {Q : D → Prop}
@[simp] theorem g_book : fDGet (stD lay s) (.str "book") Q ↔ Q (bookD s.book) := by show (∃ d, lk "book" (flds lay s) = some d ∧ Q d) ↔ _; simp
@[simp] theorem g_time : fDGet (stD lay s) (.str "time") Q ↔ Q (.int s.time) := by show (∃ d, lk "time" (flds lay s) = some d ∧ Q d) ↔ _; simp
@[simp] theorem g_epoch : fDGet (stD lay s) (.str "epoch") Q ↔ Q (.int s.epoch) := by show (∃ d, lk "epoch" (flds lay s) = some d ∧ Q d) ↔ _; simp
@[simp] theorem g_moment : fDGet (stD lay s) (.str "moment") Q ↔ Q (.int s.moment) := by show (∃ d, lk "moment" (flds lay s) = some d ∧ Q d) ↔ _; simp
@[simp] theorem g_fence : fDGet (stD lay s) (.str "fence") Q ↔ Q (.int s.fence) := by show (∃ d, lk "fence" (flds lay s) = some d ∧ Q d) ↔ _; simp
@[simp] theorem g_holds : fDGet (stD lay s) (.str "holds") Q ↔ Q (holdsD s.holds) := by show (∃ d, lk "holds" (flds lay s) = some d ∧ Q d) ↔ _; simp
@[simp] theorem g_ends : fDGet (stD lay s) (.str "ends") Q ↔ Q (endsD s.ends) := by show (∃ d, lk "ends" (flds lay s) = some d ∧ Q d) ↔ _; simp
@[simp] theorem g_barred : fDGet (stD lay s) (.str "barred") Q ↔ Q (barredD s.barred) := by show (∃ d, lk "barred" (flds lay s) = some d ∧ Q d) ↔ _; simp
@[simp] theorem g_freed : fDGet (stD lay s) (.str "freed") Q ↔ Q (freedD s.freed) := by show (∃ d, lk "freed" (flds lay s) = some d ∧ Q d) ↔ _; simp
@[simp] theorem gN_holds (l : List (Str × Hold)) (k : Str) (z : D) : fGetN (holdsD l) (.str k) z Q ↔ Q (((alk k l).map holdD).getD z) := by show Q ((lk k (l.map fun p => (p.1, holdD p.2))).getD z) ↔ _; rw [lk_holds]
@[simp] theorem gN_holds0 (l : List (Str × Hold)) (z : D) : fGetN (holdsD l) .non z Q ↔ Q z := Iff.rfl
@[simp] theorem gN_ends (l : List (Str × List End)) (k : Str) (z : D) : fGetN (endsD l) (.str k) z Q ↔ Q (((alk k l).map fun es => D.tup (es.map endD)).getD z) := by show Q ((lk k (l.map fun p => (p.1, D.tup (p.2.map endD)))).getD z) ↔ _; rw [lk_ends]
@[simp] theorem gN_barred (l : List (Str × Str)) (k : Str) (z : D) : fGetN (barredD l) (.str k) z Q ↔ Q (((alk k l).map D.str).getD z) := by show Q ((lk k (l.map fun p => (p.1, D.str p.2))).getD z) ↔ _; rw [lk_barred]
@[simp] theorem g1_holds (l : List (Str × Hold)) (k : Str) : fGet1 (holdsD l) (.str k) Q ↔ Q (((alk k l).map holdD).getD .non) := by show Q ((lk k (l.map fun p => (p.1, holdD p.2))).getD .non) ↔ _; rw [lk_holds]
@[simp] theorem g1_barred (l : List (Str × Str)) (k : Str) : fGet1 (barredD l) (.str k) Q ↔ Q (((alk k l).map D.str).getD .non) := by show Q ((lk k (l.map fun p => (p.1, D.str p.2))).getD .non) ↔ _; rw [lk_barred]
@[simp] theorem in_holds (l : List (Str × Hold)) (k : Str) (QB : Bool → Prop) : fDIn (.str k) (holdsD l) QB ↔ QB (alk k l).isSome := by show QB (lk k (l.map fun p => (p.1, holdD p.2))).isSome ↔ _; rw [lk_holds, Option.isSome_map]
@[simp] theorem in_barred (l : List (Str × Str)) (k : Str) (QB : Bool → Prop) : fDIn (.str k) (barredD l) QB ↔ QB (alk k l).isSome := by show QB (lk k (l.map fun p => (p.1, D.str p.2))).isSome ↔ _; rw [lk_barred, Option.isSome_map]
@[simp] theorem get_barred (l : List (Str × Str)) (k : Str) : fDGet (barredD l) (.str k) Q ↔ ∃ x, alk k l = some x ∧ Q (.str x) := by
  show (∃ d, lk k (l.map fun p => (p.1, D.str p.2)) = some d ∧ Q d) ↔ _
  rw [lk_barred]
  cases alk k l <;> simp
@[simp] theorem get_holds (l : List (Str × Hold)) (k : Str) : fDGet (holdsD l) (.str k) Q ↔ ∃ x, alk k l = some x ∧ Q (holdD x) := by
  show (∃ d, lk k (l.map fun p => (p.1, holdD p.2)) = some d ∧ Q d) ↔ _
  rw [lk_holds]
  cases alk k l <;> simp
end
@[simp] theorem x_fgetN (kvs : List (Str × D)) (k : Str) (z : D) (Q : D → Prop) : fGetN (.dct kvs) (.str k) z Q = Q ((lk k kvs).getD z) := propext Iff.rfl
@[simp] theorem x_fgetN0 (kvs : List (Str × D)) (z : D) (Q : D → Prop) : fGetN (.dct kvs) .non z Q = Q z := propext Iff.rfl
@[simp] theorem x_fget1 (kvs : List (Str × D)) (k : Str) (Q : D → Prop) : fGet1 (.dct kvs) (.str k) Q = Q ((lk k kvs).getD .non) := propext Iff.rfl
theorem at0 {d : D} {r : List D} : atI (d :: r) 0 = some d := by
  unfold atI ixN
  rw [if_pos (by decide), if_pos (by simp only [List.length_cons]; omega)]
  rfl
theorem atS {d : D} {r : List D} {n : Nat} : atI (d :: r) ((n : Int) + 1) = atI r (n : Int) := by
  unfold atI ixN
  rw [if_pos (by omega), if_pos (by omega : (0 : Int) ≤ (n : Int))]
  by_cases h : (n : Int) < r.length
  · rw [if_pos (by simp only [List.length_cons]; omega), if_pos h]
    have e : ((n : Int) + 1).toNat = n + 1 := by omega
    rw [e, Int.toNat_natCast] <;> rfl
  · rw [if_neg (by simp only [List.length_cons]; omega), if_neg h]
    rfl
@[simp] theorem at_0 {d : D} {r : List D} : atI (d :: r) 0 = some d := at0
@[simp] theorem at_1 {d0 d : D} {r : List D} : atI (d0 :: d :: r) 1 = some d := (atS (n := 0)).trans at0
@[simp] theorem at_2 {d0 d1 d : D} {r : List D} : atI (d0 :: d1 :: d :: r) 2 = some d := (atS (n := 1)).trans at_1
@[simp] theorem at_3 {d0 d1 d2 d : D} {r : List D} : atI (d0 :: d1 :: d2 :: d :: r) 3 = some d := (atS (n := 2)).trans at_2
@[simp] theorem at_4 {d0 d1 d2 d3 d : D} {r : List D} : atI (d0 :: d1 :: d2 :: d3 :: d :: r) 4 = some d := (atS (n := 3)).trans at_3
@[simp] theorem at_5 {d0 d1 d2 d3 d4 d : D} {r : List D} : atI (d0 :: d1 :: d2 :: d3 :: d4 :: d :: r) 5 = some d := (atS (n := 4)).trans at_4
@[simp] theorem at_6 {d0 d1 d2 d3 d4 d5 d : D} {r : List D} : atI (d0 :: d1 :: d2 :: d3 :: d4 :: d5 :: d :: r) 6 = some d := (atS (n := 5)).trans at_5
@[simp] theorem at_7 {d0 d1 d2 d3 d4 d5 d6 d : D} {r : List D} : atI (d0 :: d1 :: d2 :: d3 :: d4 :: d5 :: d6 :: d :: r) 7 = some d := (atS (n := 6)).trans at_6
theorem at_last {ds : List D} {d : D} : atI (ds ++ [d]) (-1) = some d := by
  unfold atI ixN
  have hl : (ds ++ [d]).length = ds.length + 1 := by simp
  rw [if_neg (by decide), if_pos (by rw [hl]; omega)]
  have e : ((-1 : Int) + ((ds ++ [d]).length : Nat)).toNat = ds.length := by rw [hl]; omega
  show (ds ++ [d])[((-1 : Int) + ((ds ++ [d]).length : Nat)).toNat]? = some d
  rw [e]; simp
section
variable {Q : D → Prop}
@[simp] theorem b_0 (b : Book) : fIx (bookD b) (.int 0) Q ↔ Q (.tup (b.things.map useD)) := by unfold bookD; simp
@[simp] theorem b_1 (b : Book) : fIx (bookD b) (.int 1) Q ↔ Q (.tup (b.jobs.map jobD)) := by unfold bookD; simp
@[simp] theorem j_0 (j : Job) : fIx (jobD j) (.int 0) Q ↔ Q (.str j.name) := by unfold jobD; simp
@[simp] theorem j_1 (j : Job) : fIx (jobD j) (.int 1) Q ↔ Q (.str j.mode) := by unfold jobD; simp
@[simp] theorem j_2 (j : Job) : fIx (jobD j) (.int 2) Q ↔ Q (.tup (j.needs.map .str)) := by unfold jobD; simp
@[simp] theorem j_4 (j : Job) : fIx (jobD j) (.int 4) Q ↔ Q (.tup (j.uses.map useD)) := by unfold jobD; simp
@[simp] theorem j_6 (j : Job) : fIx (jobD j) (.int 6) Q ↔ Q (.int j.tries) := by unfold jobD; simp
@[simp] theorem j_7 (j : Job) : fIx (jobD j) (.int 7) Q ↔ Q (.int j.start) := by unfold jobD; simp
@[simp] theorem h_0 (j : Hold) : fIx (holdD j) (.int 0) Q ↔ Q (.int j.fence) := by unfold holdD; simp
@[simp] theorem h_1 (j : Hold) : fIx (holdD j) (.int 1) Q ↔ Q (.int j.mach) := by unfold holdD; simp
@[simp] theorem h_2 (j : Hold) : fIx (holdD j) (.int 2) Q ↔ Q (.int j.att) := by unfold holdD; simp
@[simp] theorem h_3 (j : Hold) : fIx (holdD j) (.int 3) Q ↔ Q (.int j.mom) := by unfold holdD; simp
@[simp] theorem h_4 (j : Hold) : fIx (holdD j) (.int 4) Q ↔ Q (.int j.time) := by unfold holdD; simp
@[simp] theorem e_0 (e : End) : fIx (endD e) (.int 0) Q ↔ Q (.str e.word) := by unfold endD; simp
@[simp] theorem e_1 (e : End) : fIx (endD e) (.int 1) Q ↔ Q (.int e.fence) := by unfold endD; simp
@[simp] theorem e_5 (e : End) : fIx (endD e) (.int 5) Q ↔ Q e.val := by unfold endD; simp
@[simp] theorem isN_job (j : Job) : isN (jobD j) = false := rfl
@[simp] theorem isN_hold (j : Hold) : isN (holdD j) = false := rfl
end
/-- the jobs -/
def jobOf (b : Book) (n : Str) : Option Job := b.jobs.find? fun j => decide (j.name = n)
def optJ : Option Job → D
  | some j => jobD j
  | none => .non
theorem p_job_of (b : Book) (n : Str) (Q : D → Prop) : g_job_of [bookD b, .str n] Q ↔ Q (optJ (jobOf b n)) := by
  unfold g_job_of c_job_of jobOf
  simp [x_var]
  have key : ∀ (l : List Job) (o : Option D), forW (gN 2) (sIf (cTest (cOp fEq (cOp fIx (cVar 2) (cC (.int 0))) (cVar 1))) (sRet (cVar 2)) sNil) (l.map jobD) ⟨[some (bookD b), some (.str n), o], none⟩ (fun _ => Q .non) Q ↔ Q (optJ (l.find? fun j => decide (j.name = n))) := by
    intro l
    induction l with
    | nil => intro o; exact Iff.rfl
    | cons j l ih =>
      intro o
      rw [List.map_cons, x_fW1]
      simp [x_put, x_var]
      by_cases h : j.name = n
      · rw [if_pos h, List.find?_cons_of_pos (by simpa using h)]
        exact Iff.rfl
      · rw [if_neg h, List.find?_cons_of_neg (by simpa using h)]
        exact ih _
  exact key b.jobs none
theorem p_ends_in (lay : Bool) (s : St) (j : Str) (Q : D → Prop) : g_ends_in [stD lay s, .str j] Q ↔ Q (.tup (((alk j s.ends).getD []).map endD)) := by
  unfold g_ends_in c_ends_in
  simp [x_var]
  cases alk j s.ends <;> simp
/-! plain values -/
def atom : D → Bool
  | .non => true
  | .bl _ => true
  | .int _ => true
  | .str x => PyData.strOk x
  | _ => false
theorem atom_py {d : D} (h : atom d = true) : PyData.canLay0 (toPy d) = true ∧ (toPy d).depth = 0 := by
  cases d with
  | non => exact ⟨by simp [toPy, PyData.canLay0], by simp [toPy, PyData.depth]⟩
  | bl b => exact ⟨by simp [toPy, PyData.canLay0], by simp [toPy, PyData.depth]⟩
  | int i => exact ⟨by simp [toPy, PyData.canLay0], by simp [toPy, PyData.depth]⟩
  | str x => exact ⟨by rw [toPy]; simp only [PyData.canLay0]; exact h, by simp [toPy, PyData.depth]⟩
  | tup _ => exact absurd h Bool.false_ne_true
  | lst _ => exact absurd h Bool.false_ne_true
  | dct _ => exact absurd h Bool.false_ne_true
  | src => exact absurd h Bool.false_ne_true
  | prs _ => exact absurd h Bool.false_ne_true
theorem atoms_py : ∀ {ds : List D}, (∀ d ∈ ds, atom d = true) → PyData.canLayAll0 (toPyL ds) = true ∧ PyData.depthAll (toPyL ds) = 0
  | [], _ => ⟨by simp [toPyL, PyData.canLayAll0], by simp [toPyL, PyData.depthAll]⟩
  | d :: ds, h => by
    obtain ⟨a1, a2⟩ := atom_py (h d List.mem_cons_self)
    obtain ⟨b1, b2⟩ := atoms_py fun x hx => h x (List.mem_cons_of_mem _ hx)
    rw [toPyL]
    exact ⟨by simp [PyData.canLayAll0, a1, b1], by simp [PyData.depthAll, a2, b2]⟩
theorem sh_lst {ds : List D} (h : ∀ d ∈ ds, atom d = true) : sh (.lst ds) = true := by
  obtain ⟨b1, b2⟩ := atoms_py h
  unfold sh SeqAt.shaped
  simp [toPy, PyData.canLay0, PyData.depth, b1, b2]
theorem sh_tup {ds : List D} (h : ∀ d ∈ ds, atom d = true) : sh (.tup ds) = true := by
  obtain ⟨b1, b2⟩ := atoms_py h
  unfold sh SeqAt.shaped
  simp [toPy, PyData.canLay0, PyData.depth, b1, b2]
theorem tups_py : ∀ {ds : List D}, (∀ d ∈ ds, ∃ es, d = .tup es ∧ ∀ x ∈ es, atom x = true) → PyData.canLayAll0 (toPyL ds) = true ∧ PyData.depthAll (toPyL ds) ≤ 1
  | [], _ => ⟨by simp [toPyL, PyData.canLayAll0], by simp [toPyL, PyData.depthAll]⟩
  | d :: ds, h => by
    obtain ⟨es, e, he⟩ := h d List.mem_cons_self
    subst e
    obtain ⟨a1, a2⟩ := atoms_py he
    obtain ⟨b1, b2⟩ := tups_py fun x hx => h x (List.mem_cons_of_mem _ hx)
    rw [toPyL]
    refine ⟨by simp [toPy, PyData.canLayAll0, PyData.canLay0, a1, b1], ?_⟩
    simp only [toPy, PyData.depthAll, PyData.depth, a2]
    omega
theorem sh_tups {ds : List D} (h : ∀ d ∈ ds, ∃ es, d = .tup es ∧ ∀ x ∈ es, atom x = true) : sh (.tup ds) = true := by
  obtain ⟨b1, b2⟩ := tups_py h
  unfold sh SeqAt.shaped
  simp only [toPy, PyData.canLay0, PyData.depth, b1, Bool.true_and, decide_eq_true_eq]
  omega
theorem eq_nilT (ds : List D) : eqP (.tup ds) (.tup []) = ds.isEmpty := by cases ds <;> simp [eqP, toPy, toPyL, PyData.eqv, PyData.eqvAll]
theorem eq_nilL (ds : List D) : eqP (.lst ds) (.lst []) = ds.isEmpty := by cases ds <;> simp [eqP, toPy, toPyL, PyData.eqv, PyData.eqvAll]
theorem x_neNilT {ds : List D} (h : sh (.tup ds) = true) (Q : D → Prop) : fNe (.tup ds) (.tup []) Q ↔ Q (.bl (!ds.isEmpty)) := by
  show ((sh (.tup ds) = true ∧ sh (.tup []) = true) ∧ Q (.bl (!eqP (.tup ds) (.tup [])))) ↔ _
  rw [eq_nilT]
  exact ⟨fun h => h.2, fun q => ⟨⟨h, by decide +kernel⟩, q⟩⟩
theorem x_neNilL {ds : List D} (h : sh (.lst ds) = true) (Q : D → Prop) : fNe (.lst ds) (.lst []) Q ↔ Q (.bl (!ds.isEmpty)) := by
  show ((sh (.lst ds) = true ∧ sh (.lst []) = true) ∧ Q (.bl (!eqP (.lst ds) (.lst [])))) ↔ _
  rw [eq_nilL]
  exact ⟨fun h => h.2, fun q => ⟨⟨h, by decide +kernel⟩, q⟩⟩
theorem x_eqNilL {ds : List D} (h : sh (.lst ds) = true) (Q : D → Prop) : fEq (.lst ds) (.lst []) Q ↔ Q (.bl ds.isEmpty) := by
  show ((sh (.lst ds) = true ∧ sh (.lst []) = true) ∧ Q (.bl (eqP (.lst ds) (.lst [])))) ↔ _
  rw [eq_nilL]
  exact ⟨fun h => h.2, fun q => ⟨⟨h, by decide +kernel⟩, q⟩⟩
/-! how a job ended -/
inductive Out where
  | barred (n : Str)
  | done (n : Nat) (v : D)
  | failed (t : Int)
def outD : Option Out → D
  | none => .non
  | some (.barred n) => .tup [.str "barred", .str n]
  | some (.done n v) => .tup [.str "done", .int n, v]
  | some (.failed t) => .tup [.str "failed", .int t]
def endsOf (s : St) (j : Str) : List End := (alk j s.ends).getD []
def triesOf (s : St) (j : Str) : Int := ((jobOf s.book j).map Job.tries).getD 0
/-- of the ends es, t tries -/
def outE (es : List End) (t : Int) : Option Out := match es.getLast? with
  | some e => if e.word = "done" then some (.done es.length e.val) else if (es.length : Int) = t then some (.failed t) else none
  | none => if (0 : Int) = t then some (.failed t) else none
def outS (s : St) (j : Str) : Option Out := match alk j s.barred with
  | some n => some (.barred n)
  | none => outE (endsOf s j) (triesOf s j)
def EndOk (e : End) : Prop := PyData.strOk e.word = true ∧ atom e.val = true
def EndsOk (s : St) : Prop := ∀ p ∈ s.ends, ∀ e ∈ p.2, EndOk e
theorem alk_mem {α : Type} {k : Str} {v : α} : ∀ {l : List (Str × α)}, alk k l = some v → (k, v) ∈ l
  | [], h => by cases h
  | (k', v') :: r, h => by
    unfold alk at h
    split at h
    · rename_i e; cases h; rw [e]; exact List.mem_cons_self
    · exact List.mem_cons_of_mem _ (alk_mem h)
theorem endsOf_ok {s : St} (h : EndsOk s) (j : Str) : ∀ e ∈ endsOf s j, EndOk e := fun e he => by
  unfold endsOf at he
  cases q : alk j s.ends with
  | none => rw [q] at he; simp at he
  | some es => rw [q] at he; exact h _ (alk_mem q) e (by simpa using he)
theorem sh_ends {es : List End} (h : ∀ e ∈ es, EndOk e) : sh (.tup (es.map endD)) = true := sh_tups fun d hd => by
  obtain ⟨e, he, rfl⟩ := List.mem_map.mp hd
  refine ⟨_, rfl, fun x hx => ?_⟩
  simp only [List.mem_cons, List.not_mem_nil, or_false] at hx
  rcases hx with rfl | rfl | rfl | rfl | rfl | rfl <;> first | rfl | exact (h e he).2 | exact (h e he).1
theorem p_outcome_in (lay : Bool) (s : St) (j : Str) (he : EndsOk s) (hj : (jobOf s.book j).isSome = true) (Q : D → Prop) : g_outcome_in [stD lay s, .str j] Q ↔ Q (outD (outS s j)) := by
  obtain ⟨job, ej⟩ := Option.isSome_iff_exists.mp hj
  have e0 := endsOf_ok he j
  have hs := sh_ends e0
  unfold g_outcome_in c_outcome_in outS triesOf
  simp [x_var, x_put, p_job_of, p_ends_in]
  cases hb : alk j s.barred with
  | some n => simp [outD]
  | none =>
    simp [ej, optJ]
    show fNe (.tup ((endsOf s j).map endD)) _ _ ↔ _
    rw [x_neNilT hs]
    change (isB _ fun x => if x = true then ∃ d, atI ((endsOf s j).map endD) (-1) = some d ∧ _ else _) ↔ _
    unfold outE
    have e2 : (alk j s.ends).getD [] = endsOf s j := rfl
    rw [e2]
    rcases List.eq_nil_or_concat (endsOf s j) with h0 | ⟨es, e, h0⟩
    · rw [h0]
      simp [outD]
      split <;> rfl
    · rw [h0, List.concat_eq_append]
      simp [at_last]
      split
      · rfl
      · split <;> rfl
end E64
/-! the program's questions -/
namespace E64
open PySem PySem.Spec PyProof.Rows L2
theorem comp_fm {α : Type} {g : CG} {ct : CB} {ce : C} {env : Env} (enc : α → D) (F : α → Option D) : ∀ (l : List α) (acc : List D) (Q : List D → Prop),
    (∀ x ∈ l, ∀ P : Option D → Prop, (g (enc x) env fun env1 => ct env1 fun b => if b = true then ce env1 fun y => P (some y) else P none) ↔ P (F x)) → acc.length + l.length ≤ 100000 → (compW g ct ce env (l.map enc) acc Q ↔ Q (acc ++ l.filterMap F))
  | [], acc, Q, _, _ => by simp
  | x :: l, acc, Q, h, hl => by
    rw [List.map_cons, x_cW1]
    have hx := h x List.mem_cons_self fun o => match o with
      | some y => acc.length < 100000 ∧ compW g ct ce env (l.map enc) (acc ++ [y]) Q
      | none => compW g ct ce env (l.map enc) acc Q
    refine hx.trans ?_
    have ih : ∀ acc : List D, acc.length + l.length ≤ 100000 → (compW g ct ce env (l.map enc) acc Q ↔ Q (acc ++ l.filterMap F)) := fun acc ha => comp_fm enc F l acc Q (fun y hy => h y (List.mem_cons_of_mem _ hy)) ha
    simp only [List.length_cons] at hl
    cases e : F x with
    | none => rw [List.filterMap_cons_none e]; exact ih acc (by omega)
    | some y =>
      rw [List.filterMap_cons_some e]
      show (acc.length < 100000 ∧ compW g ct ce env (l.map enc) (acc ++ [y]) Q) ↔ _
      rw [ih (acc ++ [y]) (by simp; omega), List.append_assoc]
      exact ⟨fun h => h.2, fun h => ⟨by omega, h⟩⟩
theorem fm_some {α β : Type} (f : α → β) : ∀ l : List α, l.filterMap (fun x => some (f x)) = l.map f
  | [] => rfl
  | x :: l => by simp
theorem fm_if {α β : Type} (c : α → Bool) (f : α → β) : ∀ l : List α, l.filterMap (fun x => if c x = true then some (f x) else none) = (l.filter c).map f
  | [] => rfl
  | x :: l => by
    rw [List.filterMap_cons]
    by_cases h : c x = true
    · rw [if_pos h, List.filter_cons_of_pos h, List.map_cons, fm_if c f l]
    · rw [if_neg h, List.filter_cons_of_neg h, fm_if c f l]
theorem p_names (b : Book) (hl : b.jobs.length ≤ 1000) (Q : D → Prop) : g_names_of_jobs [bookD b] Q ↔ Q (.tup (b.jobs.map fun j => .str j.name)) := by
  unfold g_names_of_jobs c_names_of_jobs
  simp [x_var, x_wipe1]
  rw [comp_fm jobD (fun j => some (.str j.name)) _ _ _ (fun j _ P => by simp [x_var, x_put]) (by simp; omega), fm_some]
  rfl
def isDoneO : Option Out → Bool
  | some (.done _ _) => true
  | _ => false
def valO : Option Out → D
  | some (.done _ v) => v
  | _ => .non
/-- a book that can be played -/
structure BookOk (b : Book) : Prop where
  nodup : (b.jobs.map Job.name).Nodup
  needs : ∀ j ∈ b.jobs, ∀ n ∈ j.needs, (jobOf b n).isSome = true
  tnod : (b.things.map (·.1)).Nodup
  uses : ∀ j ∈ b.jobs, ∀ u ∈ j.uses, u.1 ∈ b.things.map (·.1)
  lj : b.jobs.length ≤ 8
  ln : ∀ j ∈ b.jobs, j.needs.length ≤ 8
  lu : ∀ j ∈ b.jobs, j.uses.length ≤ 8
  lt : b.things.length ≤ 8
  tr : ∀ j ∈ b.jobs, 1 ≤ j.tries ∧ j.tries ≤ 3
theorem jobOf_mem {b : Book} {n : Str} {j : Job} (h : jobOf b n = some j) : j ∈ b.jobs ∧ j.name = n := ⟨List.mem_of_find?_eq_some h, by have := List.find?_some h; simpa using this⟩
/-- what is asked of a store before its outcomes are -/
structure Base (s : St) : Prop where
  bk : BookOk s.book
  en : EndsOk s
section
variable {lay : Bool} {s : St} {j : Str} {Q : D → Prop}
theorem isN_out (o : Option Out) : isN (outD o) = o.isNone := by
  cases o with
  | none => rfl
  | some x => cases x <;> rfl
theorem p_has_ended (hb : Base s) (hj : (jobOf s.book j).isSome = true) : g_has_ended [stD lay s, .str j] Q ↔ Q (.bl (outS s j).isSome) := by
  unfold g_has_ended c_has_ended
  simp [x_var, p_outcome_in _ _ _ hb.en hj, isN_out]
theorem p_is_done (hb : Base s) (hj : (jobOf s.book j).isSome = true) : g_is_done_in [stD lay s, .str j] Q ↔ Q (.bl (isDoneO (outS s j))) := by
  unfold g_is_done_in c_is_done_in
  simp [x_var, x_put, p_outcome_in _ _ _ hb.en hj, isN_out]
  have e1 : decide (("barred" : Str) = "done") = false := by decide +kernel
  have e2 : decide (("failed" : Str) = "done") = false := by decide +kernel
  cases outS s j with
  | none => simp [isDoneO]
  | some o => cases o <;> simp [outD, isDoneO, e1, e2]
def needsOf (s : St) (j : Str) : List Str := ((jobOf s.book j).map Job.needs).getD []
def resD (s : St) (j : Str) : D := .tup ((needsOf s j).map fun n => .tup [.str n, valO (outS s n)])
theorem p_results (hb : Base s) (hj : (jobOf s.book j).isSome = true) : g_results_in [stD lay s, .str j] Q ↔ Q (resD s j) := by
  obtain ⟨job, ej⟩ := Option.isSome_iff_exists.mp hj
  obtain ⟨m1, m2⟩ := jobOf_mem ej
  unfold g_results_in c_results_in resD needsOf
  simp [x_var, x_put, p_job_of, ej, optJ, x_wipe1]
  rw [comp_fm D.str (fun n => some (.tup [.str n, valO (outS s n)])) _ _ _ (fun n hn P => ?_) (by have := hb.bk.ln job m1; simp; omega), fm_some]
  · rfl
  · have hn' := hb.bk.needs job m1 n hn
    simp [x_var, x_put, p_is_done hb hn', p_outcome_in _ _ _ hb.en hn']
    cases outS s n with
    | none => simp [isDoneO, valO]
    | some o => cases o <;> simp [outD, isDoneO, valO]
theorem p_attempt : g_attempt_in [stD lay s, .str j] Q ↔ Q (.int ((endsOf s j).length + 1)) := by
  unfold g_attempt_in c_attempt_in
  simp [x_var, p_ends_in]
  rfl
def stillD (s : St) : D := .tup ((s.book.jobs.filter fun j => (outS s j.name).isNone).map fun j => .str j.name)
theorem jobOf_self {b : Book} {j : Job} (h : j ∈ b.jobs) : (jobOf b j.name).isSome = true := by
  unfold jobOf
  rw [List.find?_isSome]
  exact ⟨j, h, by simp⟩
theorem p_still (hb : Base s) : g_still_open [stD lay s] Q ↔ Q (stillD s) := by
  unfold g_still_open c_still_open stillD
  have hl := hb.bk.lj
  simp [x_var, x_wipe1, p_names _ (by omega : s.book.jobs.length ≤ 1000)]
  have e : (s.book.jobs.map fun j => D.str j.name) = (s.book.jobs.map Job.name).map D.str := by rw [List.map_map] <;> rfl
  rw [e, comp_fm D.str (fun n => if (outS s n).isNone = true then some (.str n) else none) _ _ _ (fun n hn P => ?_) (by simp; omega), fm_if, List.filter_map, List.map_map]
  · rfl
  · obtain ⟨j, hj, rfl⟩ := List.mem_map.mp hn
    simp [x_var, x_put, p_has_ended hb (jobOf_self hj)]
    cases outS s j.name <;> simp
def hindL (s : St) (j : Job) : List Str := if j.mode = "all" then j.needs.filter (fun n => !isDoneO (outS s n)) else j.needs.filter fun n => (outS s n).isNone
theorem p_hinder (hb : Base s) {job : Job} (hj : job ∈ s.book.jobs) : g_hindering_needs [stD lay s, jobD job] Q ↔ Q (.lst ((hindL s job).map .str)) := by
  unfold g_hindering_needs c_hindering_needs hindL
  have hl := hb.bk.ln job hj
  simp [x_var, x_put, x_wipe1]
  split
  · rw [comp_fm D.str (fun n => if (!isDoneO (outS s n)) = true then some (.str n) else none) _ _ _ (fun n hn P => ?_) (by simp; omega), fm_if]
    · simp
    · simp [x_var, x_put, p_is_done hb (hb.bk.needs job hj n hn)]
      cases isDoneO (outS s n) <;> simp
  · rw [comp_fm D.str (fun n => if ((outS s n).isNone) = true then some (.str n) else none) _ _ _ (fun n hn P => ?_) (by simp; omega), fm_if]
    · rfl
    · simp [x_var, x_put, p_has_ended hb (hb.bk.needs job hj n hn)]
      cases outS s n <;> simp
end
end E64
/-! free units, what bars a grant -/
namespace E64
open PySem PySem.Spec PyProof.Rows L2
/-! dicts -/
section
variable {α : Type}
theorem lk_map (f : α → D) (k : Str) (l : List (Str × α)) : lk k (l.map fun p => (p.1, f p.2)) = (alk k l).map f := by rw [lk_alk, alk_map f]
theorem alk_none {k : Str} : ∀ {l : List (Str × α)}, alk k l = none ↔ k ∉ l.map (·.1)
  | [] => by simp [alk]
  | (k', v) :: r => by
    unfold alk
    split
    · rename_i e; simp [e]
    · rename_i e; rw [alk_none]; simp [Ne.symm e]
theorem alk_some {k : Str} {v : α} : ∀ {l : List (Str × α)}, (l.map (·.1)).Nodup → (alk k l = some v ↔ (k, v) ∈ l)
  | [], _ => by simp [alk]
  | (k', v') :: r, h => by
    simp only [List.map_cons, List.nodup_cons] at h
    unfold alk
    split
    · rename_i e
      subst e
      constructor
      · intro z; cases z; exact List.mem_cons_self
      · intro z
        rcases List.mem_cons.mp z with z | z
        · cases z; rfl
        · exact absurd (List.mem_map.mpr ⟨_, z, rfl⟩) h.1
    · rename_i e
      rw [alk_some h.2, List.mem_cons]
      constructor
      · exact Or.inr
      · rintro (z | z)
        · cases z; exact absurd rfl e
        · exact z
theorem alk_isSome {k : Str} {l : List (Str × α)} : (alk k l).isSome = true ↔ k ∈ l.map (·.1) := by
  have := alk_none (k := k) (l := l)
  cases h : alk k l with
  | none => simp [h] at this ⊢; exact this
  | some v => simp; exact ⟨v, alk_mem h⟩
theorem alk_perm {k : Str} {l m : List (Str × α)} (p : l.Perm m) (h : (l.map (·.1)).Nodup) : alk k l = alk k m := by
  have h2 : (m.map (·.1)).Nodup := (p.map _).nodup_iff.mp h
  cases e : alk k l with
  | none =>
    rw [alk_none] at e
    exact (alk_none.mpr fun z => e ((p.map _).mem_iff.mpr z)).symm
  | some v => exact ((alk_some h2).mpr (p.mem_iff.mp ((alk_some h).mp e))).symm
/-- a key set -/
def apt (l : List (Str × α)) (k : Str) (v : α) : List (Str × α) := if (l.any fun p => decide (p.1 = k)) = true then l.map (fun p => if p.1 = k then (p.1, v) else p) else l ++ [(k, v)]
theorem putD_map (f : α → D) (l : List (Str × α)) (k : Str) (v : α) : putD (l.map fun p => (p.1, f p.2)) k (f v) = (apt l k v).map fun p => (p.1, f p.2) := by
  unfold putD apt
  rw [List.any_map]
  have e : ((fun kv : Str × D => decide (kv.1 = k)) ∘ fun p : Str × α => (p.1, f p.2)) = fun p => decide (p.1 = k) := rfl
  rw [e]
  split
  · rw [List.map_map, List.map_map]
    refine List.map_congr_left fun p _ => ?_
    simp only [Function.comp]
    split <;> rfl
  · simp
theorem any_key {k : Str} {l : List (Str × α)} : (l.any fun p => decide (p.1 = k)) = true ↔ k ∈ l.map (·.1) := by simp
theorem apt_new {l : List (Str × α)} {k : Str} {v : α} (h : k ∉ l.map (·.1)) : apt l k v = l ++ [(k, v)] := by
  unfold apt; rw [if_neg (fun z => h (any_key.mp z))]
theorem apt_old {l : List (Str × α)} {k : Str} {v : α} (h : k ∈ l.map (·.1)) : apt l k v = l.map (fun p => if p.1 = k then (p.1, v) else p) := by
  unfold apt; rw [if_pos (any_key.mpr h)]
theorem apt_keys {l : List (Str × α)} {k : Str} {v : α} (h : k ∈ l.map (·.1)) : (apt l k v).map (·.1) = l.map (·.1) := by
  rw [apt_old h, List.map_map]
  refine List.map_congr_left fun p _ => ?_
  simp only [Function.comp]
  split <;> rfl
theorem putD_fresh {l : List (Str × D)} {k : Str} {v : D} (h : k ∉ l.map (·.1)) : putD l k v = l ++ [(k, v)] := by
  unfold putD
  rw [if_neg (fun z => h (any_key.mp z))]
theorem mergeD_app : ∀ (m l : List (Str × D)), ((l ++ m).map (·.1)).Nodup → mergeD l m = l ++ m
  | [], l, _ => by simp [mergeD]
  | (k, v) :: m, l, h => by
    have e : mergeD l ((k, v) :: m) = mergeD (putD l k v) m := rfl
    have hk : k ∉ l.map (·.1) := by
      simp only [List.map_append, List.map_cons] at h
      have := (List.nodup_append.mp h).2.2
      exact fun z => this k z k List.mem_cons_self rfl
    rw [e, putD_fresh hk, mergeD_app m _ (by simpa using h)]
    simp
theorem mergeD_nil {m : List (Str × D)} (h : (m.map (·.1)).Nodup) : mergeD [] m = m := mergeD_app m [] h
end
theorem items_use (l : List (Str × Int)) : l.map useD = itemsD (l.map fun p => (p.1, D.int p.2)) := by unfold itemsD; rw [List.map_map]; rfl
theorem x_dictU {l : List (Str × Int)} (h : (l.map (·.1)).Nodup) (Q : D → Prop) (q : Q (.dct (l.map fun p => (p.1, D.int p.2)))) : fDict [.tup (l.map useD)] Q := by
  refine ⟨_, items_use l, ?_⟩
  rw [mergeD_nil (by rw [List.map_map]; exact h)]
  exact q
/-! free units -/
def subU (l : List (Str × Int)) (u : Str × Int) : List (Str × Int) := apt l u.1 ((alk u.1 l).getD 0 - u.2)
def usesOf (b : Book) (j : Str) : List (Str × Int) := ((jobOf b j).map Job.uses).getD []
def freeOf (s : St) : List (Str × Int) := s.holds.foldl (fun l h => (usesOf s.book h.1).foldl subU l) s.book.things
theorem subU_keys {l : List (Str × Int)} {u : Str × Int} (h : u.1 ∈ l.map (·.1)) : (subU l u).map (·.1) = l.map (·.1) := apt_keys h
theorem subs_keys : ∀ {us l : List (Str × Int)}, (∀ u ∈ us, u.1 ∈ l.map (·.1)) → (us.foldl subU l).map (·.1) = l.map (·.1)
  | [], _, _ => rfl
  | u :: us, l, h => by
    have e := subU_keys (h u List.mem_cons_self)
    rw [List.foldl_cons, subs_keys (us := us) (l := subU l u) fun x hx => by rw [e]; exact h x (List.mem_cons_of_mem _ hx), e]
theorem usesOf_ok {b : Book} (hb : BookOk b) {j : Str} : ∀ u ∈ usesOf b j, u.1 ∈ b.things.map (·.1) := fun u hu => by
  unfold usesOf at hu
  cases e : jobOf b j with
  | none => rw [e] at hu; simp at hu
  | some job => rw [e] at hu; exact hb.uses job (jobOf_mem e).1 u (by simpa using hu)
theorem free_keys' {b : Book} (hb : BookOk b) : ∀ (hs : List (Str × Hold)) (l : List (Str × Int)), l.map (·.1) = b.things.map (·.1) → (hs.foldl (fun l h => (usesOf b h.1).foldl subU l) l).map (·.1) = b.things.map (·.1)
  | [], l, e => e
  | h :: hs, l, e => by
    rw [List.foldl_cons]
    exact free_keys' hb hs _ (by rw [subs_keys fun u hu => by rw [e]; exact usesOf_ok hb u hu, e])
theorem free_keys {s : St} (hb : BookOk s.book) : (freeOf s).map (·.1) = s.book.things.map (·.1) := free_keys' hb s.holds _ rfl
abbrev uD (l : List (Str × Int)) : D := .dct (l.map fun p => (p.1, D.int p.2))
theorem look_all : ∀ {l m : List (Str × Int)}, (m.map (·.1)).Nodup → l.map (·.1) = m.map (·.1) → (l.map fun p => (p.1, (alk p.1 m).getD 0)) = m := by
  intro l m h e
  have key : ∀ (l' m' : List (Str × Int)), l'.map (·.1) = m'.map (·.1) → (∀ p ∈ m', alk p.1 m = some p.2) → (l'.map fun p => (p.1, (alk p.1 m).getD 0)) = m' := by
    intro l'
    induction l' with
    | nil => intro m' e _; cases m' with
      | nil => rfl
      | cons _ _ => cases e
    | cons p l' ih =>
      intro m' e hm
      cases m' with
      | nil => cases e
      | cons q m' =>
        simp only [List.map_cons, List.cons.injEq] at e ⊢
        refine ⟨?_, ih m' e.2 fun x hx => hm x (List.mem_cons_of_mem _ hx)⟩
        rw [e.1, hm q List.mem_cons_self]; rfl
  exact key l m e fun p hp => (alk_some h).mpr hp
/-- the holds all have jobs -/
def HeldIn (s : St) : Prop := ∀ p ∈ s.holds, (jobOf s.book p.1).isSome = true
theorem p_free {lay : Bool} {s : St} {Q : D → Prop} (hb : BookOk s.book) (hh : HeldIn s) (q : Q (.tup ((freeOf s).map useD))) : g_free_units [stD lay s] Q := by
  unfold g_free_units c_free_units
  simp [x_var, sOwn]
  refine x_dictU hb.tnod _ ?_
  simp [Env.own, wKeys, cPk]
  refine ⟨flds lay s, ⟨rfl, s.holds.map fun p => (p.1, holdD p.2), f_holds, ?_⟩⟩
  rw [List.map_map]
  have inner : ∀ (us : List (Str × Int)) (sl : List (Option D)) (m : List (Str × Int)) (Nx : Env → Prop), sl.length = 5 → (∀ u ∈ us, u.1 ∈ m.map (·.1)) → m.length ≤ 8 →
      (∀ sl', sl'.length = 5 → sl'[0]? = sl[0]? → Nx ⟨sl', some (1, uD (us.foldl subU m))⟩) → forW (gT [3, 4]) (sSubO 1 (cVar 3) (cVar 4)) (us.map useD) ⟨sl, some (1, uD m)⟩ Nx Q := by
    intro us
    induction us with
    | nil => intro sl m Nx hl _ _ k; exact k sl hl rfl
    | cons u us ih =>
      intro sl m Nx hl hu hm k
      rw [List.map_cons, x_fW1]
      simp only [useD, x_gT, List.length_cons, List.length_nil, true_and, x_puts1, x_puts0]
      simp only [x_putO, show ((1 : Nat) = 3) = False by simp, show ((1 : Nat) = 4) = False by simp, if_false]
      obtain ⟨v, hv⟩ := Option.isSome_iff_exists.mp (alk_isSome.mpr (hu u List.mem_cons_self))
      refine ⟨_, rfl, .str u.1, by simp [hl], u.1, v, rfl, by rw [lk_map D.int, hv]; rfl, .int u.2, by simp [hl], u.2, rfl, by rw [List.length_map]; omega, ?_⟩
      have e : putD (m.map fun p => (p.1, D.int p.2)) u.1 (.int (v - u.2)) = (subU m u).map fun p => (p.1, D.int p.2) := by
        rw [putD_map D.int]; unfold subU; rw [hv]; rfl
      rw [e]
      have ek := subU_keys (hu u List.mem_cons_self)
      refine ih _ _ _ (by simp [hl]) (fun x hx => by rw [ek]; exact hu x (List.mem_cons_of_mem _ hx)) (by have := congrArg List.length ek; simp only [List.length_map] at this; omega) fun sl' h1 h2 => ?_
      exact k sl' h1 (by rw [h2]; simp)
  have outer : ∀ (hs : List (Str × Hold)) (sl : List (Option D)) (m : List (Str × Int)) (Nx : Env → Prop), sl.length = 5 → sl[0]? = some (some (stD lay s)) → (∀ p ∈ hs, (jobOf s.book p.1).isSome = true) → m.map (·.1) = s.book.things.map (·.1) →
      (∀ sl', sl'.length = 5 → sl'[0]? = some (some (stD lay s)) → Nx ⟨sl', some (1, uD (hs.foldl (fun l h => (usesOf s.book h.1).foldl subU l) m))⟩) →
      forW (gN 2) (sFor (wTup (cOp fIx (cCall 2 g_job_of (aCons (cDGet (cVar 0) (cC (.str "book"))) (aCons (cVar 2) (aNil)))) (cC (.int 4)))) (gT [3, 4]) (sSubO 1 (cVar 3) (cVar 4))) (hs.map fun p => D.str p.1) ⟨sl, some (1, uD m)⟩ Nx Q := by
    intro hs
    induction hs with
    | nil => intro sl m Nx hl h0 _ _ k; exact k sl hl h0
    | cons h hs ih =>
      intro sl m Nx hl h0 hj hm k
      rw [List.map_cons, x_fW1]
      simp only [x_gN, x_putO, show ((1 : Nat) = 2) = False by simp, if_false]
      obtain ⟨job, ej⟩ := Option.isSome_iff_exists.mp (hj h List.mem_cons_self)
      have e0 : (sl.set 2 (some (D.str h.1)))[0]? = some (some (stD lay s)) := by rw [List.getElem?_set_ne (by decide)]; exact h0
      have e2 : (sl.set 2 (some (D.str h.1)))[2]? = some (some (D.str h.1)) := by simp [hl]
      simp [x_var, e2, p_job_of, ej, optJ, h0]
      have eu : job.uses = usesOf s.book h.1 := by unfold usesOf; rw [ej]; rfl
      have hlen : m.length = s.book.things.length := by have := congrArg List.length hm; simpa using this
      rw [eu]
      refine inner _ _ _ _ (by simp [hl]) (fun u hu => by rw [hm]; exact usesOf_ok hb u hu) (by have := hb.lt; omega) fun sl' h1 h2 => ?_
      refine ih sl' _ _ h1 (by rw [h2]; exact e0) (fun p hp => hj p (List.mem_cons_of_mem _ hp)) (by rw [subs_keys fun u hu => by rw [hm]; exact usesOf_ok hb u hu, hm]) fun sl'' h3 h4 => ?_
      exact k sl'' h3 h4
  refine outer s.holds _ _ _ (by simp) rfl hh rfl fun sl' hl h0 => ?_
  have hnd : ((freeOf s).map (·.1)).Nodup := by rw [free_keys hb]; exact hb.tnod
  simp [x_var, h0]
  have ew : wipeE ⟨sl', some (1, uD (freeOf s))⟩ [3, 4] = ⟨(sl'.set 4 none).set 3 none, some (1, uD (freeOf s))⟩ := by
    simp [wipeE]
  show compW _ _ _ (wipeE ⟨sl', some (1, uD (freeOf s))⟩ [3, 4]) _ _ _
  rw [ew, comp_fm useD (fun u => some (useD (u.1, (alk u.1 (freeOf s)).getD 0))) _ _ _ (fun u hu P => ?_) (by have := hb.lt; simp; omega), fm_some]
  · have e : (s.book.things.map fun u => useD (u.1, (alk u.1 (freeOf s)).getD 0)) = (freeOf s).map useD := by
      conv => rhs; rw [← look_all hnd (free_keys hb).symm]
      rw [List.map_map]; rfl
    rw [e]; exact q
  · have hk : u.1 ∈ (freeOf s).map (·.1) := by rw [free_keys hb]; exact List.mem_map.mpr ⟨u, hu, rfl⟩
    obtain ⟨v, hv⟩ := Option.isSome_iff_exists.mp (alk_isSome.mpr hk)
    simp only [useD, x_gT, List.length_cons, List.length_nil, true_and, x_puts1, x_puts0]
    simp only [x_putO, show ((1 : Nat) = 3) = False by simp, show ((1 : Nat) = 4) = False by simp, if_false]
    simp [x_var, hl, cGetO, lk_map D.int, hv]
end E64
/-! what bars a grant -/
namespace E64
open PySem PySem.Spec PyProof.Rows L2
/-- what holds of every store that is asked -/
structure Ask (s : St) : Prop extends Base s where
  held : HeldIn s
def shortU (free us : List (Str × Int)) : Option (Str × Int) := us.find? fun u => decide ((alk u.1 free).getD 0 < u.2)
def barsD (s : St) (j : Str) : D := match jobOf s.book j with
  | none => .tup [.str "job"]
  | some job => if (outS s j).isSome = true then .tup [.str "ended"] else if (alk j s.holds).isSome = true then .tup [.str "held"] else if s.time < job.start then .tup [.str "early", .int job.start] else
    match hindL s job with
    | n :: _ => .tup [.str "need", .str n]
    | [] => match shortU (freeOf s) job.uses with
      | some u => .tup [.str "units", .str u.1]
      | none => .non
def needS (s : St) (j : Str) : Option Str := match jobOf s.book j with
  | none => none
  | some job => if job.mode = "all" ∧ (outS s j).isSome = false then match hindL s job with
    | n :: _ => if (outS s n).isSome = true then some n else none
    | [] => none
    else none
def optS : Option Str → D
  | some x => .str x
  | none => .non
theorem hind_in {s : St} {job : Job} {n : Str} (h : n ∈ hindL s job) : n ∈ job.needs := by
  unfold hindL at h
  split at h <;> exact (List.mem_filter.mp h).1
section
variable {lay : Bool} {s : St} {j : Str} {Q : D → Prop}
@[simp] theorem x_dgetU (l : List (Str × Int)) (k : Str) (Q : D → Prop) : fDGet (uD l) (.str k) Q = ∃ v, alk k l = some v ∧ Q (.int v) := by
  show (∃ d, lk k (l.map fun p => (p.1, D.int p.2)) = some d ∧ Q d) = _
  rw [lk_map D.int]
  cases alk k l <;> simp
theorem p_bars (ha : Ask s) (q : Q (barsD s j)) : g_bars_grant [stD lay s, .str j] Q := by
  unfold g_bars_grant c_bars_grant
  simp [x_var, p_job_of]
  unfold barsD at q
  cases ej : jobOf s.book j with
  | none => simp [optJ, x_put, x_var, ej] at q ⊢; exact q
  | some job =>
    have hj : (jobOf s.book j).isSome = true := by rw [ej]; rfl
    obtain ⟨m1, m2⟩ := jobOf_mem ej
    rw [ej] at q
    simp [optJ, x_put, x_var, p_has_ended ha.toBase hj]
    simp only [] at q
    by_cases c1 : (outS s j).isSome = true
    · rw [if_pos c1] at q; rw [if_pos c1]; exact q
    rw [if_neg c1] at q; rw [if_neg c1]
    by_cases c2 : (alk j s.holds).isSome = true
    · rw [if_pos c2] at q; rw [if_pos c2]; exact q
    rw [if_neg c2] at q; rw [if_neg c2]
    by_cases c3 : s.time < job.start
    · rw [if_pos c3] at q; rw [if_pos c3]; exact q
    rw [if_neg c3] at q; rw [if_neg c3]
    simp [x_var, p_hinder ha.toBase m1]
    refine p_free ha.bk ha.held ?_
    have hnd : ((freeOf s).map (·.1)).Nodup := by rw [free_keys ha.bk]; exact ha.bk.tnod
    refine x_dictU hnd _ ?_
    cases eh : hindL s job with
    | cons n ns => rw [eh] at q; simp; exact q
    | nil =>
      rw [eh] at q
      simp only [] at q
      simp
      have hu : ∀ u ∈ job.uses, u.1 ∈ (freeOf s).map (·.1) := fun u hu => by rw [free_keys ha.bk]; exact ha.bk.uses job m1 u hu
      have key : ∀ (us : List (Str × Int)) (sl : List (Option D)), (∀ u ∈ us, u.1 ∈ (freeOf s).map (·.1)) → sl.length = 7 → sl[4]? = some (some (uD (freeOf s))) → (Q (match shortU (freeOf s) us with
        | some u => .tup [.str "units", .str u.1]
        | none => .non)) → forW (gT [5, 6]) (sIf (cTest (cOp fGt (cVar 6) (cDGet (cVar 4) (cVar 5)))) (sRet (cTup (aCons (cC (.str "units")) (aCons (cVar 5) (aNil))))) (sNil)) (us.map useD) ⟨sl, none⟩ (fun _ => Q .non) Q := by
        intro us
        induction us with
        | nil => intro sl _ _ _ q; exact q
        | cons u us ih =>
          intro sl hu hl h4 q
          obtain ⟨v, hv⟩ := Option.isSome_iff_exists.mp (alk_isSome.mpr (hu u List.mem_cons_self))
          rw [List.map_cons, x_fW1]
          simp only [useD, x_gT, List.length_cons, List.length_nil, true_and, x_puts1, x_puts0, x_put]
          simp [x_var, hl]
          refine ⟨_, by have := h4; rw [List.getElem?_eq_getElem (by omega)] at this; exact Option.some.inj this, ?_⟩
          rw [x_dgetU]
          refine ⟨v, hv, ?_⟩
          simp
          unfold shortU at q
          by_cases c : v < u.2
          · rw [if_pos c]
            rw [List.find?_cons_of_pos (by simp [hv, c])] at q
            exact q
          · rw [if_neg c]
            rw [List.find?_cons_of_neg (by simp [hv]; omega)] at q
            exact ih _ (fun x hx => hu x (List.mem_cons_of_mem _ hx)) (by simp [hl]) (by simp [h4]) q
      exact key job.uses _ hu (by simp) (by simp) q
theorem p_bar_need (ha : Ask s) (hj : (jobOf s.book j).isSome = true) (q : Q (optS (needS s j))) : g_bar_need [stD lay s, .str j] Q := by
  obtain ⟨job, ej⟩ := Option.isSome_iff_exists.mp hj
  obtain ⟨m1, m2⟩ := jobOf_mem ej
  unfold needS at q
  rw [ej] at q
  simp only [] at q
  unfold g_bar_need c_bar_need
  simp [x_var, p_job_of, ej, optJ, x_put, p_has_ended ha.toBase hj, p_hinder ha.toBase m1]
  by_cases c1 : job.mode = "all"
  · simp only [c1, true_and] at q
    have c1' : decide (job.mode = "all") = true := by simpa using c1
    rw [if_pos c1]
    by_cases c2 : (outS s j).isSome = true
    · rw [if_pos c2]; rw [if_neg (by simp [c2])] at q; exact q
    · rw [if_neg c2]
      rw [if_pos (by simpa using c2)] at q
      cases eh : hindL s job with
      | nil => rw [eh] at q; exact q
      | cons n ns =>
        rw [eh] at q
        have hn := ha.bk.needs job m1 n (hind_in (by rw [eh]; exact List.mem_cons_self))
        simp [p_has_ended ha.toBase hn]
        simp only [] at q
        by_cases c3 : (outS s n).isSome = true
        · rw [if_pos c3] at q; rw [if_pos c3]; exact q
        · rw [if_neg c3] at q; rw [if_neg c3]; exact q
  · rw [if_neg (fun z => c1 z.1)] at q
    rw [if_neg c1]
    exact q
end
end E64
/-! letters, and the store changed -/
namespace E64
open PySem PySem.Spec PyProof.Rows L2
section
variable {lay : Bool} {s : St}
theorem set_time (x : Int) : putD (flds lay s) "time" (.int x) = flds lay { s with time := x } := by cases lay <;> kernel_rfl
theorem set_epoch (x : Int) : putD (flds lay s) "epoch" (.int x) = flds lay { s with epoch := x } := by cases lay <;> kernel_rfl
theorem set_moment (x : Int) : putD (flds lay s) "moment" (.int x) = flds lay { s with moment := x } := by cases lay <;> kernel_rfl
theorem set_fence (x : Int) : putD (flds lay s) "fence" (.int x) = flds lay { s with fence := x } := by cases lay <;> kernel_rfl
theorem set_holds (x : List (Str × Hold)) : putD (flds lay s) "holds" (holdsD x) = flds lay { s with holds := x } := by cases lay <;> kernel_rfl
theorem set_ends (x : List (Str × List End)) : putD (flds lay s) "ends" (endsD x) = flds lay { s with ends := x } := by cases lay <;> kernel_rfl
theorem set_barred (x : List (Str × Str)) : putD (flds lay s) "barred" (barredD x) = flds lay { s with barred := x } := by cases lay <;> kernel_rfl
theorem set_freed (x : List (Int × List D)) : putD (flds lay s) "freed" (freedD x) = flds lay { s with freed := x } := by cases lay <;> kernel_rfl
theorem flds_self : mergeD [] (flds lay s) = flds lay s := by cases lay <;> kernel_rfl
theorem flds_len : (flds lay s).length = 9 := by cases lay <;> rfl
end
/-- a letter -/
inductive Lt where
  | take (e : Int)
  | grant (e : Int) (j : Str) (f m : Int)
  | free (e : Int) (j : Str) (f : Int)
  | bar (e : Int) (j n : Str)
  | ask (e : Int)
  | fin (m : Int) (j : Str) (f a : Int) (o : Option D)
def outcD : Option D → D
  | none => .tup [.str "failed"]
  | some v => .tup [.str "done", v]
def letD : Lt → D
  | .take e => .tup [.str "take", .int e]
  | .grant e j f m => .tup [.str "grant", .int e, .str j, .int f, .int m]
  | .free e j f => .tup [.str "free", .int e, .str j, .int f]
  | .bar e j n => .tup [.str "bar", .int e, .str j, .str n]
  | .ask e => .tup [.str "ask", .int e]
  | .fin m j f a o => .tup [.str "end", .int m, .str j, .int f, .int a, outcD o]
/-- entries in the order of their names -/
def srtP {α : Type} (l : List (Str × α)) : List (Str × α) := srtB (fun p q => ltS p.1 q.1) l
def toldD (s : St) : D := .tup [.str "told", .int s.epoch, .int s.moment, .int s.time, .int s.fence, .tup ((srtP s.holds).map fun p => .tup [.str p.1, holdD p.2]), .tup ((srtP s.ends).map fun p => .tup [.str p.1, .tup (p.2.map endD)]), .tup ((srtP s.barred).map fun p => .tup [.str p.1, .str p.2])]
/-- job's ends set, where they stand or at the end -/
def setE (mv : Bool) (l : List (Str × List End)) (j : Str) (es : List End) : List (Str × List End) := if mv = true then l.filter (fun p => !decide (p.1 = j)) ++ [(j, es)] else apt l j es
def noD (s : St) (l : Lt) : D := .tup [.str "no", .int s.epoch, letD l]
def outW : Option D → Str
  | none => "failed"
  | some _ => "done"
def goneOf (s : St) (j : Str) (h : Hold) : Int × List D := (h.fence, [.str j, .int h.mach, .int h.att, .int h.mom, .int h.time, .int (s.moment + 1)])
def srtF (l : List (Int × List D)) : List (Int × List D) := srtB (fun p q => decide (p.1 < q.1)) l
/-- what the store does at a letter, and answers -/
def hear (mv : Bool) (s : St) (l : Lt) : St × D := match l with
  | .take e => if e < s.epoch then (s, noD s l) else (if s.epoch < e then { s with epoch := e, moment := s.moment + 1 } else s, .tup [.str "taken", .int e])
  | .fin m j f a o =>
    match alk j s.holds with
    | some h => if h.fence = f ∧ h.mach = m ∧ h.att = a then
        ({ s with holds := s.holds.filter (fun p => !decide (p.1 = j)), ends := setE mv s.ends j (endsOf s j ++ [⟨outW o, f, h.mom, h.time, s.moment + 1, o.getD .non⟩]), moment := s.moment + 1 }, .tup [.str "ended", .int m, .str j, .int f])
      else (s, .tup [.str (if ((endsOf s j).any fun e => decide (e.fence = f)) = true then "ended" else "refused"), .int m, .str j, .int f])
    | none => (s, .tup [.str (if ((endsOf s j).any fun e => decide (e.fence = f)) = true then "ended" else "refused"), .int m, .str j, .int f])
  | .grant e j f m => if e = s.epoch then
      match alk j s.holds with
      | some h => if h.fence = f ∧ h.mach = m then (s, .tup [.str "granted", .int e, .str j, .int f, .int m, .int h.att, resD s j]) else (s, noD s l)
      | none => if isN (barsD s j) = true ∧ s.fence < f then ({ s with fence := f, holds := s.holds ++ [(j, ⟨f, m, (endsOf s j).length + 1, s.moment + 1, s.time⟩)], moment := s.moment + 1 }, .tup [.str "granted", .int e, .str j, .int f, .int m, .int ((endsOf s j).length + 1), resD s j]) else (s, noD s l)
    else (s, noD s l)
  | .free e j f => if e = s.epoch then
      match alk j s.holds with
      | some h => if h.fence = f then ({ s with holds := s.holds.filter (fun p => !decide (p.1 = j)), freed := srtF (s.freed ++ [goneOf s j h]), moment := s.moment + 1 }, .tup [.str "freed", .int e, .str j, .int f])
        else if s.fence < f then (s, noD s l) else (s, .tup [.str "freed", .int e, .str j, .int f])
      | none => if s.fence < f then (s, noD s l) else (s, .tup [.str "freed", .int e, .str j, .int f])
    else (s, noD s l)
  | .bar e j n => if e = s.epoch then
      if alk j s.barred = some n then (s, .tup [.str "barred", .int e, .str j])
      else if needS s j = some n then ({ s with barred := s.barred ++ [(j, n)], moment := s.moment + 1 }, .tup [.str "barred", .int e, .str j]) else (s, noD s l)
    else (s, noD s l)
  | .ask e => if e = s.epoch then (s, toldD s) else (s, noD s l)
end E64
/-! what the store does -/
namespace E64
open PySem PySem.Spec PyProof.Rows L2
@[simp] theorem x_disp1 (c : C) (l : List (C × C)) (env : Env) (Q : D → Prop) : cDisp1 c l env Q = c env fun x => ∃ more, x = .dct more ∧ more.length ≤ 100000 ∧ dispW2 l env fun ps => (mergeD [] more).length + ps.length ≤ 100000 ∧ Q (.dct (mergeD (mergeD [] more) (mergeD [] ps))) := by
  unfold cDisp1 starW tailW
  simp
@[simp] theorem x_disp2 (c1 c2 : C) (l : List (C × C)) (env : Env) (Q : D → Prop) : cDisp2 c1 c2 l env Q = c1 env fun x => ∃ more, x = .dct more ∧ more.length ≤ 100000 ∧ c2 env fun y => ∃ m2, y = .dct m2 ∧ (mergeD [] more).length + m2.length ≤ 100000 ∧ dispW2 l env fun ps => (mergeD (mergeD [] more) m2).length + ps.length ≤ 100000 ∧ Q (.dct (mergeD (mergeD (mergeD [] more) m2) (mergeD [] ps))) := by
  unfold cDisp2 starW tailW
  simp
@[simp] theorem x_dw2n (env : Env) (Q : List (Str × D) → Prop) : dispW2 [] env Q = Q [] := rfl
@[simp] theorem x_dw2c (ck cv : C) (r : List (C × C)) (env : Env) (Q : List (Str × D) → Prop) : dispW2 ((ck, cv) :: r) env Q = ck env fun x => ∃ k, x = .str k ∧ cv env fun d => dispW2 r env fun ps => Q ((k, d) :: ps) := rfl
@[simp] theorem x_disp (l : List (Str × C)) (env : Env) (Q : D → Prop) : cDisp l env Q = dispW l env fun ps => Q (.dct ps) := rfl
@[simp] theorem x_dwn (env : Env) (Q : List (Str × D) → Prop) : dispW [] env Q = Q [] := rfl
@[simp] theorem x_dwc (k : Str) (c : C) (r : List (Str × C)) (env : Env) (Q : List (Str × D) → Prop) : dispW ((k, c) :: r) env Q = c env fun d => dispW r env fun ps => Q ((k, d) :: ps) := rfl
@[simp] theorem x_starT (c : C) (r : CA) (env : Env) (Q : List D → Prop) (xs : List D) : aStar (cC (.tup xs)) r env Q = r env fun ds => Q (xs ++ ds) := rfl
/-- the parts of d, and Q -/
def isSq (d : D) (Q : List D → Prop) : Prop := match d with
  | .tup xs => Q xs
  | .lst xs => Q xs
  | _ => False
@[simp] theorem isSq_t (xs : List D) (Q : List D → Prop) : isSq (.tup xs) Q = Q xs := rfl
@[simp] theorem isSq_l (xs : List D) (Q : List D → Prop) : isSq (.lst xs) Q = Q xs := rfl
@[simp] theorem x_astar (c : C) (r : CA) (env : Env) (Q : List D → Prop) : aStar c r env Q = c env fun d => isSq d fun xs => r env fun ds => Q (xs ++ ds) := by
  unfold aStar isSq
  exact congrArg (c env) (funext fun x => by cases x <;> rfl)
@[simp] theorem x_items (c : C) (env : Env) (Q : D → Prop) : cItems c env Q = c env fun x => ∃ kvs, x = .dct kvs ∧ Q (.lst (itemsD kvs)) := by
  unfold cItems
  refine congrArg (c env) (funext fun x => ?_)
  cases x <;> simp
@[simp] theorem m_one (k : Str) (d : D) : mergeD [] [(k, d)] = [(k, d)] := rfl
@[simp] theorem pu_nil (k : Str) (d : D) : putD [] k d = [(k, d)] := rfl
@[simp] theorem pu_2 (d1 d2 : D) : putD [(("holds" : Str), d1)] "ends" d2 = [(("holds" : Str), d1), (("ends" : Str), d2)] := by kernel_rfl
@[simp] theorem pu_3 (d1 d2 d3 : D) : putD [(("holds" : Str), d1), (("ends" : Str), d2)] "barred" d3 = [(("holds" : Str), d1), (("ends" : Str), d2), (("barred" : Str), d3)] := by kernel_rfl
@[simp] theorem m_nil (l : List (Str × D)) : mergeD l [] = l := rfl
@[simp] theorem m_cons (l : List (Str × D)) (k : Str) (d : D) (r : List (Str × D)) : mergeD l ((k, d) :: r) = mergeD (putD l k d) r := rfl
@[simp] theorem st_exi (lay : Bool) (s : St) (P : List (Str × D) → Prop) : (∃ more, stD lay s = .dct more ∧ P more) ↔ P (flds lay s) := ⟨fun ⟨m, e, h⟩ => by cases e; exact h, fun h => ⟨_, rfl, h⟩⟩
@[simp] theorem h_exi (l : List (Str × Hold)) (P : List (Str × D) → Prop) : (∃ more, holdsD l = .dct more ∧ P more) ↔ P (l.map fun p => (p.1, holdD p.2)) := ⟨fun ⟨m, e, h⟩ => by cases e; exact h, fun h => ⟨_, rfl, h⟩⟩
@[simp] theorem e_exi (l : List (Str × List End)) (P : List (Str × D) → Prop) : (∃ more, endsD l = .dct more ∧ P more) ↔ P (l.map fun p => (p.1, .tup (p.2.map endD))) := ⟨fun ⟨m, e, h⟩ => by cases e; exact h, fun h => ⟨_, rfl, h⟩⟩
@[simp] theorem b_exi (l : List (Str × Str)) (P : List (Str × D) → Prop) : (∃ more, barredD l = .dct more ∧ P more) ↔ P (l.map fun p => (p.1, .str p.2)) := ⟨fun ⟨m, e, h⟩ => by cases e; exact h, fun h => ⟨_, rfl, h⟩⟩
@[simp] theorem x_dictH (l : List (Str × Hold)) (Q : D → Prop) : fDict [holdsD l] Q = Q (holdsD l) := rfl
@[simp] theorem x_dictE (l : List (Str × List End)) (Q : D → Prop) : fDict [endsD l] Q = Q (endsD l) := rfl
@[simp] theorem x_dictB (l : List (Str × Str)) (Q : D → Prop) : fDict [barredD l] Q = Q (barredD l) := rfl
section
variable {lay : Bool} {s : St} {Q : D → Prop}
theorem p_copied : g_store_copied [stD lay s] Q ↔ Q (stD lay s) := by
  unfold g_store_copied c_store_copied
  simp [x_var]
  simp only [flds_self, flds_len, set_holds, set_ends, set_barred]
  exact ⟨fun h => h.2.2, fun h => ⟨by decide, by decide, h⟩⟩
theorem p_ticked : g_ticked [stD lay s] Q ↔ Q (stD lay { s with time := s.time + 1 }) := by
  unfold g_ticked c_ticked
  simp [x_var, p_copied]
  simp only [flds_self, flds_len, set_time]
  exact ⟨fun h => h.2.2, fun h => ⟨by decide, by decide, h⟩⟩
theorem p_written {ch : List (Str × D)} (hl : ch.length ≤ 100) (hm : (mergeD (flds lay s) ch).length ≤ 100) (q : Q (.dct (putD (mergeD (flds lay s) ch) "moment" (.int (s.moment + 1))))) : g_store_written [stD lay s, .dct ch] Q := by
  unfold g_store_written c_store_written
  simp [x_var]
  simp only [flds_self, flds_len]
  exact ⟨by decide, by omega, by omega, q⟩
theorem p_new (b : Book) : g_new_store [bookD b] Q ↔ Q (stD false ⟨b, 0, 0, 0, 0, [], [], [], []⟩) := by
  unfold g_new_store c_new_store
  simp [x_var, x_put]
  exact ⟨fun h => cast (congrArg Q (by kernel_rfl)) h.2, fun h => ⟨Nat.le_of_ble_eq_true (by kernel_rfl), cast (congrArg Q (by kernel_rfl)) h⟩⟩
end
end E64
/-! the store hears -/
namespace E64
open PySem PySem.Spec PyProof.Rows L2
/-- a store, as every turn leaves it -/
structure Inv (s : St) : Prop extends Ask s where
  hn : (s.holds.map (·.1)).Nodup
  en' : (s.ends.map (·.1)).Nodup
  bn : (s.barred.map (·.1)).Nodup
  ei : ∀ p ∈ s.ends, (jobOf s.book p.1).isSome = true
  bi : ∀ p ∈ s.barred, (jobOf s.book p.1).isSome = true
  el : ∀ p ∈ s.ends, (p.2.length : Int) ≤ triesOf s p.1
  nd : ∀ p ∈ s.ends, ∀ e ∈ p.2.dropLast, e.word ≠ "done"
  op : ∀ p ∈ s.holds, outE (endsOf s p.1) (triesOf s p.1) = none
  hf : (s.holds.map (·.2.fence)).Nodup
  hle : ∀ p ∈ s.holds, p.2.fence ≤ s.fence
  ff : (s.freed.map (·.1)).Nodup
  fle : ∀ p ∈ s.freed, p.1 ≤ s.fence
  fd : ∀ p ∈ s.holds, ∀ q ∈ s.freed, p.2.fence ≠ q.1
  fl : s.freed.length ≤ 1000
theorem len_of {b : Book} (hb : BookOk b) {α : Type} {l : List (Str × α)} (hn : (l.map (·.1)).Nodup) (hi : ∀ p ∈ l, (jobOf b p.1).isSome = true) : l.length ≤ 8 := by
  have h : (l.map (·.1)).length ≤ (b.jobs.map Job.name).length := hn.length_le_of_subset fun x hx => by
    obtain ⟨p, hp, rfl⟩ := List.mem_map.mp hx
    obtain ⟨j, ej⟩ := Option.isSome_iff_exists.mp (hi p hp)
    obtain ⟨m1, m2⟩ := jobOf_mem ej
    exact List.mem_map.mpr ⟨j, m1, m2⟩
  simp only [List.length_map] at h
  have := hb.lj
  omega
theorem Inv.hl {s : St} (h : Inv s) : s.holds.length ≤ 8 := len_of h.bk h.hn h.held
theorem Inv.el8 {s : St} (h : Inv s) : s.ends.length ≤ 8 := len_of h.bk h.en' h.ei
theorem Inv.bl {s : St} (h : Inv s) : s.barred.length ≤ 8 := len_of h.bk h.bn h.bi
theorem srt_items {α : Type} (f : α → D) {l : List (Str × α)} (h : (l.map (·.1)).Nodup) (Q : D → Prop) (q : Q (.lst ((srtP l).map fun p => .tup [.str p.1, f p.2]))) : fSorted [.lst (itemsD (l.map fun p => (p.1, f p.2)))] Q := by
  have e : itemsD (l.map fun p => (p.1, f p.2)) = l.map fun p => D.tup [.str p.1, f p.2] := by unfold itemsD; rw [List.map_map]; rfl
  rw [e]
  refine .inl (.inr ⟨fun d hd => ?_, ?_, ?_⟩)
  · obtain ⟨p, _, rfl⟩ := List.mem_map.mp hd; trivial
  · rw [List.map_map]; exact h
  · rw [srtB_map (lt := fun p q : Str × α => ltS p.1 q.1) (lt' := lS) (f := fun p => D.tup [.str p.1, f p.2]) (fun _ _ => rfl)]
    exact q
@[simp] theorem x_isnS (o : Option Str) : isN (optS o) = o.isNone := by cases o <;> rfl
theorem atom_tup2 {a b c d : Int} : eqP (.tup [.int a, .int b]) (.tup [.int c, .int d]) = (decide (a = c) && decide (b = d)) := by
  simp [eqP, toPy, toPyL, PyData.eqv, PyData.eqvAll]
  by_cases h : a = c <;> by_cases h2 : b = d <;> simp [h, h2]
theorem atom_tup3 {a b c d e f : Int} : eqP (.tup [.int a, .int b, .int e]) (.tup [.int c, .int d, .int f]) = (decide (a = c) && (decide (b = d) && decide (e = f))) := by
  simp [eqP, toPy, toPyL, PyData.eqv, PyData.eqvAll]
  by_cases h : a = c <;> by_cases h2 : b = d <;> by_cases h3 : e = f <;> simp [h, h2, h3]
@[simp] theorem x_ne2 {a b c d : Int} (Q : D → Prop) : fNe (.tup [.int a, .int b]) (.tup [.int c, .int d]) Q ↔ Q (.bl (!(decide (a = c) && decide (b = d)))) := by
  show ((sh _ = true ∧ sh _ = true) ∧ Q (.bl (!eqP (.tup [.int a, .int b]) (.tup [.int c, .int d])))) ↔ _
  rw [atom_tup2]
  exact ⟨fun h => h.2, fun h => ⟨⟨sh_tup (by simp [atom]), sh_tup (by simp [atom])⟩, h⟩⟩
@[simp] theorem x_eq3 {a b c d e f : Int} (Q : D → Prop) : fEq (.tup [.int a, .int b, .int e]) (.tup [.int c, .int d, .int f]) Q ↔ Q (.bl (decide (a = c) && (decide (b = d) && decide (e = f)))) := by
  show ((sh _ = true ∧ sh _ = true) ∧ Q (.bl (eqP (.tup [.int a, .int b, .int e]) (.tup [.int c, .int d, .int f])))) ↔ _
  rw [atom_tup3]
  exact ⟨fun h => h.2, fun h => ⟨⟨sh_tup (by simp [atom]), sh_tup (by simp [atom])⟩, h⟩⟩
theorem sl1 {ds : List D} {d : D} (h : ds.length ≠ 0 ) (Q : D → Prop) : fSl (.tup (d :: ds)) (some 1) none Q ↔ Q (.tup ds) := by
  have e : HT.sIx (ds.length + 1) 0 (some ((1 : Nat) : Int)) = 1 := by rw [HT.sIx_nat]; omega
  have e2 : HT.sIx (ds.length + 1) (ds.length + 1) none = ds.length + 1 := rfl
  show (¬ (HT.sIx (d :: ds).length 0 (some ((1 : Nat) : Int)) = 0 ∧ _) ∧ Q (.tup (cutD (d :: ds) (some ((1 : Nat) : Int)) none))) ↔ _
  unfold cutD
  rw [List.length_cons, e, e2]
  simp
@[simp] theorem hold_2 (h : Hold) (Q : D → Prop) : fSl (holdD h) none (some 2) Q ↔ Q (.tup [.int h.fence, .int h.mach]) := ⟨fun h => h.2, fun h => ⟨by show ¬ (HT.sIx 5 0 none = 0 ∧ HT.sIx 5 5 (some 2) = 5); decide, h⟩⟩
@[simp] theorem hold_3 (h : Hold) (Q : D → Prop) : fSl (holdD h) none (some 3) Q ↔ Q (.tup [.int h.fence, .int h.mach, .int h.att]) := ⟨fun h => h.2, fun h => ⟨by show ¬ (HT.sIx 5 0 none = 0 ∧ HT.sIx 5 5 (some 3) = 5); decide, h⟩⟩
section
variable {lay : Bool} {s : St} {Q : D → Prop}
theorem p_told (h : Inv s) (q : Q (toldD s)) : g_told_of_store [stD lay s] Q := by
  unfold g_told_of_store c_told_of_store
  simp [x_var]
  refine srt_items holdD h.hn _ ?_
  simp
  refine srt_items (fun es : List End => D.tup (es.map endD)) h.en' _ ?_
  simp [x_put, x_var]
  refine srt_items D.str h.bn _ ?_
  simp
  exact q
theorem p_without {l : List (Str × Hold)} {j : Str} (hn : (l.map (·.1)).Nodup) (hl : l.length ≤ 1000) (q : Q (holdsD (l.filter fun p => !decide (p.1 = j)))) : g_without_hold [holdsD l, .str j] Q := by
  unfold g_without_hold c_without_hold
  simp [cDComp, wItems, cPv]
  rw [x_wipe2 _ _ _ rfl]
  have key : ∀ (m : List (Str × Hold)) (acc : List (Str × Hold)), ((acc ++ m).map (·.1)).Nodup → acc.length + m.length ≤ 1000 → Q (holdsD (acc ++ m.filter fun p => !decide (p.1 = j))) →
      dcW (gT [2, 3]) (cTest (cOp fNe (cVar 2) (cVar 1))) (cVar 2) (cVar 3) ⟨[some (holdsD l), some (.str j), none, none], none⟩ (itemsP (m.map fun p => (p.1, holdD p.2))) (acc.map fun p => (p.1, holdD p.2)) fun acc => Q (.dct acc) := by
    intro m
    induction m with
    | nil => intro acc _ _ q; rw [List.filter_nil, List.append_nil] at q; exact q
    | cons p m ih =>
      intro acc hn hl q
      simp [itemsP, dcW, x_put, x_var]
      have hk : p.1 ∉ acc.map (·.1) := by
        simp only [List.map_append, List.map_cons] at hn
        exact fun z => (List.nodup_append.mp hn).2.2 p.1 z p.1 List.mem_cons_self rfl
      have es : (acc ++ p :: m).map (·.1) = ((acc ++ [p]) ++ m).map (·.1) := by simp
      simp only [List.length_cons] at hl
      by_cases c : p.1 = j
      · rw [if_pos c]
        rw [List.filter_cons_of_neg (by simp [c])] at q
        have := ih acc (by
          refine hn.sublist ?_
          rw [List.map_append, List.map_append]
          exact List.Sublist.append (List.Sublist.refl _) (by rw [List.map_cons]; exact List.sublist_cons_self _ _)) (by omega) q
        simpa [itemsP] using this
      · rw [if_neg c]
        rw [List.filter_cons_of_pos (by simp [c])] at q
        refine ⟨by omega, ?_⟩
        rw [putD_fresh (by rw [List.map_map]; exact hk)]
        have := ih (acc ++ [p]) (by rw [← es]; exact hn) (by simp; omega) (by simpa using q)
        simpa [itemsP] using this
  exact key l [] hn (by simpa using hl) q
theorem p_take {e : Int} (q : Q (.tup [stD lay (hear false s (.take e)).1, (hear false s (.take e)).2])) : g_hear_take [stD lay s, letD (.take e)] Q := by
  unfold g_hear_take c_hear_take
  simp [x_var, x_put, letD]
  unfold hear at q
  simp only [] at q
  by_cases c : e < s.epoch
  · rw [if_pos c] at q; rw [if_pos c]; exact q
  rw [if_neg c] at q; rw [if_neg c]
  by_cases c2 : s.epoch < e
  · rw [if_pos c2] at q; rw [if_pos c2]
    refine p_written (by simp) (by rw [m_cons, m_nil, set_epoch, flds_len]; decide) ?_
    rw [m_cons, m_nil, set_epoch, set_moment]
    exact q
  · rw [if_neg c2] at q; rw [if_neg c2]; exact q
theorem p_ask (h : Inv s) {l : D} (q : Q (.tup [stD lay s, toldD s])) : g_hear_ask [stD lay s, l] Q := by
  unfold g_hear_ask c_hear_ask
  simp [x_var]
  exact p_told h (by simpa using q)
end
end E64
/-! the store hears, on -/
namespace E64
open PySem PySem.Spec PyProof.Rows L2
theorem x_inI (f : Int) : ∀ (l : List Int), inD (.int f) (l.map .int) = some (l.any fun x => decide (x = f))
  | [] => rfl
  | x :: l => by
    have ih := x_inI f l
    simp only [inD] at ih ⊢
    rw [List.map_cons, List.foldr_cons, ih]
    simp
theorem x_inF (f : Int) (es : List End) (Q : D → Prop) : fIn (.int f) (.lst (es.map fun e => .int e.fence)) Q ↔ Q (.bl (es.any fun e => decide (e.fence = f))) := by
  have e : (es.map fun e => D.int e.fence) = (es.map End.fence).map .int := by rw [List.map_map]; rfl
  show (∃ b, inD _ _ = some b ∧ Q (.bl b)) ↔ _
  rw [e, x_inI, List.any_map]
  simp
  exact Iff.rfl
theorem outO (o : Option D) (Q : D → Prop) : fIx (outcD o) (.int 0) Q ↔ Q (.str (outW o)) := by cases o <;> simp [outcD, outW]
theorem apt_ends {l : List (Str × List End)} {j : Str} {es : List End} : putD (l.map fun p => (p.1, D.tup (p.2.map endD))) j (.tup (es.map endD)) = (apt l j es).map fun p => (p.1, D.tup (p.2.map endD)) := putD_map (fun es : List End => D.tup (es.map endD)) l j es
theorem apt_len {α : Type} {l : List (Str × α)} {k : Str} {v : α} : (apt l k v).length ≤ l.length + 1 := by
  unfold apt; split <;> simp
theorem srt_freed {l : List (Int × List D)} (h : (l.map (·.1)).Nodup) (Q : D → Prop) (q : Q (.lst ((srtF l).map fun p => .tup (.int p.1 :: p.2)))) : fSorted [.lst (l.map fun p => D.tup (.int p.1 :: p.2))] Q := by
  refine .inl (.inl ⟨fun d hd => ?_, ?_, ?_⟩)
  · obtain ⟨p, _, rfl⟩ := List.mem_map.mp hd; trivial
  · rw [List.map_map]; exact h
  · rw [srtB_map (lt := fun p q : Int × List D => decide (p.1 < q.1)) (lt' := lI) (f := fun p => D.tup (.int p.1 :: p.2)) (fun _ _ => rfl)]
    exact q
theorem Inv.gone {s : St} (h : Inv s) {j : Str} {x : Hold} (hx : alk j s.holds = some x) : ((s.freed ++ [goneOf s j x]).map (·.1)).Nodup := by
  rw [List.map_append, List.nodup_append]
  refine ⟨h.ff, by simp, fun a ha b hb => ?_⟩
  obtain ⟨q, hq, rfl⟩ := List.mem_map.mp ha
  simp [goneOf] at hb
  subst hb
  exact fun z => h.fd _ (alk_mem hx) q hq z.symm
section
variable {lay : Bool} {s : St} {Q : D → Prop}
theorem p_hfree (hi : Inv s) {e : Int} {j : Str} {f : Int} (he : e = s.epoch) (q : Q (.tup [stD lay (hear false s (.free e j f)).1, (hear false s (.free e j f)).2])) : g_hear_free [stD lay s, letD (.free e j f)] Q := by
  unfold g_hear_free c_hear_free
  unfold hear at q
  simp only [] at q
  rw [if_pos he] at q
  simp [x_var, x_put, letD, sl1]
  cases hx : alk j s.holds with
  | none =>
    rw [hx] at q
    simp only [] at q
    simp
    by_cases c : s.fence < f
    · rw [if_pos c] at q; rw [if_pos c]; exact q
    · rw [if_neg c] at q; rw [if_neg c]; exact q
  | some x =>
    rw [hx] at q
    simp only [] at q
    simp
    by_cases c : x.fence = f
    · rw [if_pos c] at q; rw [if_pos c]
      have el : (s.freed.map fun p => D.tup (.int p.1 :: p.2)) ++ [.tup [.int f, .str j, .int x.mach, .int x.att, .int x.mom, .int x.time, .int (s.moment + 1)]] = (s.freed ++ [goneOf s j x]).map fun p => D.tup (.int p.1 :: p.2) := by
        rw [List.map_append]; simp [goneOf, c]
      simp only [freedD, isSq_t]
      rw [el]
      refine ⟨by have := hi.fl; simp; omega, srt_freed (hi.gone hx) _ ?_⟩
      simp
      refine p_without hi.hn (by have := hi.hl; omega) ?_
      refine p_written (by simp) (by rw [m_cons, m_cons, m_nil, set_holds]; exact (congrArg (· ≤ 100) ((congrArg List.length (set_freed _)).trans flds_len)).mpr (by decide)) ?_
      rw [m_cons, m_cons, m_nil, set_holds]
      have e3 := set_freed (lay := lay) (s := { s with holds := s.holds.filter fun p => !decide (p.1 = j) }) (srtF (s.freed ++ [goneOf s j x]))
      unfold freedD at e3
      rw [e3, set_moment]
      exact q
    · rw [if_neg c] at q; rw [if_neg c]
      by_cases c : s.fence < f
      · rw [if_pos c] at q; rw [if_pos c]; exact q
      · rw [if_neg c] at q; rw [if_neg c]; exact q
theorem p_hend (hi : Inv s) {m : Int} {j : Str} {f a : Int} {o : Option D} (hlen : ∀ p ∈ s.ends, p.2.length ≤ 1000) (q : Q (.tup [stD lay (hear false s (.fin m j f a o)).1, (hear false s (.fin m j f a o)).2])) : g_hear_end [stD lay s, letD (.fin m j f a o)] Q := by
  unfold g_hear_end c_hear_end
  unfold hear at q
  simp only [] at q
  have hle : (endsOf s j).length ≤ 1000 := by
    unfold endsOf
    cases hx : alk j s.ends with
    | none => simp
    | some es => exact hlen _ (alk_mem hx)
  simp [x_var, x_put, letD, sl1]
  have tail : Q (.tup [stD lay s, .tup [.str (if ((endsOf s j).any fun e => decide (e.fence = f)) = true then "ended" else "refused"), .int m, .str j, .int f]]) → (g_ends_in [stD lay s, .str j] fun d => match d with
      | .tup ds => compW (gN 9) bYes (cOp fIx (cVar 9) (cC (.int 1))) (wipeE ⟨[some (stD lay s), some (letD (.fin m j f a o)), some (.int m), some (.str j), some (.int f), some (.int a), some (outcD o), some (((alk j s.holds).map holdD).getD .non), none, none, none], none⟩ [9]) ds [] fun acc => fIn (.int f) (.lst acc) fun d => isB d fun x => if x = true then Q (.tup [stD lay s, .tup [.str "ended", .int m, .str j, .int f]]) else Q (.tup [stD lay s, .tup [.str "refused", .int m, .str j, .int f]])
      | _ => False) := by
    intro q
    rw [p_ends_in]
    show compW _ _ _ _ ((endsOf s j).map endD) _ _
    rw [x_wipe1 _ _ rfl, comp_fm endD (fun e => some (.int e.fence)) _ _ _ (fun e _ P => by simp [x_put, x_var]) (by simp; omega), fm_some, List.nil_append, x_inF]
    simp
    split
    · rename_i c; rw [if_pos (by simpa using c)] at q; exact q
    · rename_i c; rw [if_neg (by simpa using c)] at q; exact q
  cases hx : alk j s.holds with
  | none =>
    rw [hx] at q tail
    simp only [] at q
    simp
    exact tail q
  | some x =>
    rw [hx] at q tail
    simp only [] at q
    simp
    by_cases c : x.fence = f ∧ x.mach = m ∧ x.att = a
    · rw [if_pos c] at q; rw [if_pos c]
      rw [outO]
      simp
      have ev : ∀ (Q : D → Prop), Q (o.getD .non) → (if outW o = "done" then fIx (outcD o) (.int 1) Q else Q .non) := by
        intro Q q
        cases o with
        | none => rw [if_neg (by decide +kernel)]; exact q
        | some v => rw [if_pos (show outW (some v) = "done" from rfl)]; simp [outcD] at q ⊢; exact q
      refine ev _ ?_
      simp [outO, p_ends_in]
      have el : (((alk j s.ends).getD []).map endD) ++ [D.tup [.str (outW o), .int f, .int x.mom, .int x.time, .int (s.moment + 1), o.getD .non]] = ((endsOf s j ++ [(⟨outW o, f, x.mom, x.time, s.moment + 1, o.getD .non⟩ : End)]).map endD) := by
        rw [List.map_append]; rfl
      rw [el]
      have em : mergeD [] (s.ends.map fun p => (p.1, D.tup (p.2.map endD))) = s.ends.map fun p => (p.1, D.tup (p.2.map endD)) := mergeD_nil (by rw [List.map_map]; exact hi.en')
      rw [em, apt_ends]
      have l8 := hi.el8
      refine ⟨by omega, by have : (endsOf s j).length = ((alk j s.ends).getD []).length := rfl; omega, by simp; omega, p_without hi.hn (by have := hi.hl; omega) ?_⟩
      refine p_written (by simp) (by rw [m_cons, m_cons, m_nil, set_holds]; exact (congrArg (· ≤ 100) ((congrArg List.length (set_ends _)).trans flds_len)).mpr (by decide)) ?_
      rw [m_cons, m_cons, m_nil, set_holds]
      have e3 := set_ends (lay := lay) (s := { s with holds := s.holds.filter fun p => !decide (p.1 = j) }) (apt s.ends j (endsOf s j ++ [⟨outW o, f, x.mom, x.time, s.moment + 1, o.getD .non⟩]))
      unfold endsD at e3
      rw [e3, set_moment]
      exact q
    · rw [if_neg c] at q; rw [if_neg c]
      exact tail q
theorem x_neO (o : Option Str) (n : Str) (Q : D → Prop) : fNe (optS o) (.str n) Q ↔ Q (.bl (!decide (o = some n))) := by
  cases o with
  | none => exact Iff.rfl
  | some x => simp [optS]
theorem resD_of {t : St} (h1 : t.book = s.book) (h2 : t.ends = s.ends) (h3 : t.barred = s.barred) {j : Str} : resD t j = resD s j := by
  unfold resD needsOf outS endsOf triesOf
  rw [h1, h2, h3]
theorem Inv.base_of {t : St} (hi : Inv s) (h1 : t.book = s.book) (h2 : t.ends = s.ends) : Base t := ⟨h1 ▸ hi.bk, by unfold EndsOk; rw [h2]; exact hi.en⟩
theorem p_hgrant (hi : Inv s) {e : Int} {j : Str} {f m : Int} (he : e = s.epoch) (q : Q (.tup [stD lay (hear false s (.grant e j f m)).1, (hear false s (.grant e j f m)).2])) : g_hear_grant [stD lay s, letD (.grant e j f m)] Q := by
  unfold g_hear_grant c_hear_grant
  unfold hear at q
  simp only [] at q
  rw [if_pos he] at q
  simp [x_var, x_put, letD, sl1]
  cases hx : alk j s.holds with
  | some x =>
    rw [hx] at q
    have hj := hi.held _ (alk_mem hx)
    simp only [] at q
    simp
    by_cases c : x.fence = f ∧ x.mach = m
    · rw [if_pos c] at q
      simp [c, p_results hi.toBase hj]
      exact q
    · rw [if_neg c] at q
      have e1 : (!(decide (x.fence = f) && decide (x.mach = m))) = true := by simp; exact Classical.or_iff_not_imp_left.mpr fun a b => c ⟨Classical.not_not.mp a, b⟩
      have e2 : ¬x.fence = f ∨ ¬x.mach = m := Classical.or_iff_not_imp_left.mpr fun a b => c ⟨Classical.not_not.mp a, b⟩
      rw [if_pos e2]
      refine p_bars hi.toAsk ?_
      have en : isN (barsD s j) = false := by
        unfold barsD
        obtain ⟨job, ej⟩ := Option.isSome_iff_exists.mp hj
        simp only [] at ej
        rw [ej, hx]
        simp only [Option.isSome_some, if_true]
        split <;> rfl
      rw [en]
      exact q
  | none =>
    rw [hx] at q
    simp only [] at q
    simp
    refine p_bars hi.toAsk ?_
    by_cases c : isN (barsD s j) = true
    · rw [if_pos c]
      by_cases c2 : s.fence < f
      · rw [if_neg (by omega)]
        rw [if_pos ⟨c, c2⟩] at q
        have hj : (jobOf s.book j).isSome = true := by
          unfold barsD at c
          cases ej : jobOf s.book j with
          | none => rw [ej] at c; cases c
          | some _ => rfl
        rw [p_attempt]
        have em : mergeD [] (s.holds.map fun p => (p.1, holdD p.2)) = s.holds.map fun p => (p.1, holdD p.2) := mergeD_nil (by rw [List.map_map]; exact hi.hn)
        rw [em]
        have l8 := hi.hl
        have ea : putD (s.holds.map fun p => (p.1, holdD p.2)) j (holdD ⟨f, m, (endsOf s j).length + 1, s.moment + 1, s.time⟩) = (s.holds ++ [(j, (⟨f, m, (endsOf s j).length + 1, s.moment + 1, s.time⟩ : Hold))]).map fun p => (p.1, holdD p.2) := by
          rw [putD_map holdD, apt_new (alk_none.mp hx)]
        refine ⟨by omega, by simp; omega, ?_⟩
        show g_store_written [stD lay s, .dct [("fence", .int f), ("holds", .dct (putD (s.holds.map fun p => (p.1, holdD p.2)) j (holdD ⟨f, m, (endsOf s j).length + 1, s.moment + 1, s.time⟩)))]] _
        rw [ea]
        refine p_written (by simp) (by rw [m_cons, m_cons, m_nil, set_fence]; exact (congrArg (· ≤ 100) ((congrArg List.length (set_holds _)).trans flds_len)).mpr (by decide)) ?_
        rw [m_cons, m_cons, m_nil, set_fence]
        have e3 := set_holds (lay := lay) (s := { s with fence := f }) (s.holds ++ [(j, ⟨f, m, (endsOf s j).length + 1, s.moment + 1, s.time⟩)])
        unfold holdsD at e3
        rw [e3, set_moment]
        change g_results_in [stD lay (⟨s.book, s.time, s.epoch, s.moment + 1, f, s.holds ++ [(j, ⟨f, m, (endsOf s j).length + 1, s.moment + 1, s.time⟩)], s.ends, s.barred, s.freed⟩ : St), .str j] _
        have hb : Base (⟨s.book, s.time, s.epoch, s.moment + 1, f, s.holds ++ [(j, ⟨f, m, (endsOf s j).length + 1, s.moment + 1, s.time⟩)], s.ends, s.barred, s.freed⟩ : St) := hi.base_of rfl rfl
        refine (p_results (lay := lay) hb hj).mpr ?_
        exact q
      · rw [if_pos (by omega)]
        rw [if_neg (fun z => c2 z.2)] at q
        exact q
    · rw [if_neg c]
      rw [if_neg (fun z => c z.1)] at q
      exact q
theorem p_hbar (hi : Inv s) {e : Int} {j n : Str} (he : e = s.epoch) (q : Q (.tup [stD lay (hear false s (.bar e j n)).1, (hear false s (.bar e j n)).2])) : g_hear_bar [stD lay s, letD (.bar e j n)] Q := by
  unfold g_hear_bar c_hear_bar
  unfold hear at q
  simp only [] at q
  rw [if_pos he] at q
  simp [x_var, x_put, letD, sl1]
  have eo : ∀ o : Option Str, (Option.map D.str o).getD .non = optS o := fun o => by cases o <;> rfl
  rw [eo, x_neO]
  simp
  by_cases c : alk j s.barred = some n
  · rw [if_pos c] at q ⊢
    exact q
  rw [if_neg c] at q ⊢
  rw [p_job_of]
  cases ej : jobOf s.book j with
  | none =>
    rw [if_neg (by unfold needS; rw [ej]; simp)] at q
    simp [optJ]
    exact q
  | some job =>
    have hj : (jobOf s.book j).isSome = true := by rw [ej]; rfl
    simp [optJ]
    refine p_bar_need hi.toAsk hj ?_
    rw [x_neO]
    simp
    by_cases c2 : needS s j = some n
    · rw [if_pos c2] at q ⊢
      have em : mergeD [] (s.barred.map fun p => (p.1, D.str p.2)) = s.barred.map fun p => (p.1, D.str p.2) := mergeD_nil (by rw [List.map_map]; exact hi.bn)
      rw [em]
      have l8 := hi.bl
      have hx : alk j s.barred = none := by
        have ho : outS s j = none := by
          unfold needS at c2
          rw [ej] at c2
          simp only [] at c2
          split at c2
          · rename_i z; simpa using z.2
          · cases c2
        unfold outS at ho
        cases hb : alk j s.barred with
        | none => rfl
        | some _ => rw [hb] at ho; cases ho
      rw [putD_map D.str, apt_new (alk_none.mp hx)]
      refine ⟨by omega, by simp; omega, ?_⟩
      have e3 := set_barred (lay := lay) (s := s) (s.barred ++ [(j, n)])
      unfold barredD at e3
      refine p_written (by simp) (by rw [m_cons, m_nil, e3, flds_len]; decide) ?_
      rw [m_cons, m_nil, e3, set_moment]
      exact q
    · rw [if_neg c2] at q ⊢
      exact q
def wordOf : Lt → Str
  | .take _ => "take"
  | .grant _ _ _ _ => "grant"
  | .free _ _ _ => "free"
  | .bar _ _ _ => "bar"
  | .ask _ => "ask"
  | .fin _ _ _ _ _ => "end"
theorem let_0 (l : Lt) (Q : D → Prop) : fIx (letD l) (.int 0) Q ↔ Q (.str (wordOf l)) := by cases l <;> simp [letD, wordOf]
theorem x_in2 (a b c : Str) (Q : D → Prop) : fIn (.str a) (.tup [.str b, .str c]) Q ↔ Q (.bl (decide (b = a) || decide (c = a))) := by
  show (∃ x, inD _ _ = some x ∧ Q (.bl x)) ↔ _
  simp [inD]
def sOk (s : St) : Prop := ∀ p ∈ s.ends, p.2.length ≤ 1000
theorem p_hears (hi : Inv s) (hlen : sOk s) {l : Lt} (q : Q (.tup [stD lay (hear false s l).1, .tup [(hear false s l).2]])) : g_store_hears [stD lay s, letD l] Q := by
  unfold g_store_hears c_store_hears
  simp [x_var, x_put, let_0, x_in2]
  have fin1 : ∀ {t : St} {a : D}, Q (.tup [stD lay t, .tup [a]]) → gT [2, 3] (.tup [stD lay t, a]) ⟨[some (stD lay s), some (letD l), none, none], none⟩ fun e => cVar 2 e fun d => g_store_copied [d] fun d => cVar 3 e fun d_1 => Q (.tup [d, .tup [d_1]]) := fun q => by
    simp [x_put, x_var]
    exact p_copied.mpr q
  have tab : ∀ {e : Int} {g : List D → (D → Prop) → Prop}, (∀ Q : D → Prop, fIx (letD l) (.int 1) Q ↔ Q (.int e)) → gTab (wordOf l) = some g → (e ≠ s.epoch → hear false s l = (s, noD s l)) → (e = s.epoch → ∀ Q : D → Prop, Q (.tup [stD lay (hear false s l).1, (hear false s l).2]) → g [stD lay s, letD l] Q) →
      ¬ (("take" : Str) = wordOf l) → ¬ (("end" : Str) = wordOf l) → (if (decide (("take" : Str) = wordOf l) || decide (("end" : Str) = wordOf l)) = true then False else fIx (letD l) (.int 1) fun x => fNe x (.int s.epoch) fun d => isB d fun x => if x = true then g_store_copied [stD lay s] fun d => Q (.tup [d, .tup [.tup [.str "no", .int s.epoch, letD l]]]) else
          cTab 2 gTab (cOp fIx (cVar 1) (cC (.int 0))) (aCons (cVar 0) (aCons (cVar 1) aNil)) ⟨[some (stD lay s), some (letD l), none, none], none⟩ fun d => gT [2, 3] d ⟨[some (stD lay s), some (letD l), none, none], none⟩ fun e => cVar 2 e fun d => g_store_copied [d] fun d => cVar 3 e fun d_1 => Q (.tup [d, .tup [d_1]])) := by
    intro e g h1 h2 h3 h4 n1 n2
    rw [if_neg (by simp [n1, n2]), h1]
    simp
    by_cases c : e = s.epoch
    · rw [if_pos c]
      simp [cTab, x_var, let_0]
      exact ⟨g, h2, h4 c _ (fin1 q)⟩
    · rw [if_neg c]
      rw [h3 c] at q
      exact p_copied.mpr q
  cases l with
  | take e =>
    simp [wordOf]
    exact p_take (fin1 q)
  | fin m j f a o =>
    have c1 : ¬ (("end" : Str) = "take") := by decide +kernel
    simp [wordOf]
    exact (if_neg c1).mpr (p_hend hi hlen (fin1 q))
  | grant e j f m =>
    have c1 : ¬ (("take" : Str) = "grant") := by decide +kernel
    have c2 : ¬ (("end" : Str) = "grant") := by decide +kernel
    have := tab (e := e) (g := g_hear_grant) (fun Q => by simp [letD]) (by kernel_rfl) (fun h => by unfold hear; simp only []; rw [if_neg h]) (fun h Q q => p_hgrant hi h q) c1 c2
    simp [wordOf, c1, c2] at this ⊢
    exact this
  | free e j f =>
    have c1 : ¬ (("take" : Str) = "free") := by decide +kernel
    have c2 : ¬ (("end" : Str) = "free") := by decide +kernel
    have := tab (e := e) (g := g_hear_free) (fun Q => by simp [letD]) (by kernel_rfl) (fun h => by unfold hear; simp only []; rw [if_neg h]) (fun h Q q => p_hfree hi h q) c1 c2
    simp [wordOf, c1, c2] at this ⊢
    exact this
  | bar e j n =>
    have c1 : ¬ (("take" : Str) = "bar") := by decide +kernel
    have c2 : ¬ (("end" : Str) = "bar") := by decide +kernel
    have := tab (e := e) (g := g_hear_bar) (fun Q => by simp [letD]) (by kernel_rfl) (fun h => by unfold hear; simp only []; rw [if_neg h]) (fun h Q q => p_hbar hi h q) c1 c2
    simp [wordOf, c1, c2] at this ⊢
    exact this
  | ask e =>
    have c1 : ¬ (("take" : Str) = "ask") := by decide +kernel
    have c2 : ¬ (("end" : Str) = "ask") := by decide +kernel
    have := tab (e := e) (g := g_hear_ask) (fun Q => by simp [letD]) (by kernel_rfl) (fun h => by unfold hear; simp only []; rw [if_neg h]) (fun h Q q => by unfold hear at q; simp only [] at q; rw [if_pos h] at q; exact p_ask hi q) c1 c2
    simp [wordOf, c1, c2] at this ⊢
    exact this
end
end E64
/-! the law's own reckoning: questions -/
namespace E64
open PySem PySem.Spec PyProof.Rows L2
section
variable {lay : Bool} {s : St} {j : Str} {Q : D → Prop}
theorem alk_jobs (n : Str) : ∀ l : List Job, alk n (l.map fun j => (j.name, jobD j)) = (l.find? fun j => decide (j.name = n)).map jobD
  | [] => rfl
  | j :: l => by
    rw [List.map_cons]
    unfold alk
    by_cases h : j.name = n
    · rw [if_pos h, List.find?_cons_of_pos (by simpa using h)]; rfl
    · rw [if_neg h, List.find?_cons_of_neg (by simpa using h)]; exact alk_jobs n l
theorem p_ljob {b : Book} (hb : BookOk b) {n : Str} (q : Q (optJ (jobOf b n))) : g_l_job [bookD b, .str n] Q := by
  unfold g_l_job c_l_job
  have hl := hb.lj
  simp [x_var, x_wipe1]
  rw [comp_fm jobD (fun j => some (.tup [.str j.name, jobD j])) _ _ _ (fun j _ P => by simp [x_var, x_put]) (by simp; omega), fm_some, List.nil_append]
  refine ⟨b.jobs.map fun j => (j.name, jobD j), by unfold itemsD; rw [List.map_map]; rfl, ?_⟩
  rw [mergeD_nil (by rw [List.map_map]; exact hb.nodup)]
  change isDc (.dct _) _
  rw [isDc_dct, x_fgetN, lk_alk, alk_jobs]
  unfold jobOf at q
  cases e : b.jobs.find? (fun j => decide (j.name = n)) with
  | none => rw [e] at q; exact q
  | some j => rw [e] at q; exact q
theorem endsOf_el (hi : Inv s) (hj : (jobOf s.book j).isSome = true) : ((endsOf s j).length : Int) ≤ triesOf s j := by
  unfold endsOf
  cases e : alk j s.ends with
  | none =>
    obtain ⟨job, ej⟩ := Option.isSome_iff_exists.mp hj
    unfold triesOf
    rw [ej]
    have := (hi.bk.tr job (jobOf_mem ej).1).1
    simp; omega
  | some es => exact hi.el _ (alk_mem e)
theorem endsOf_nd (hi : Inv s) : ∀ e ∈ (endsOf s j).dropLast, e.word ≠ "done" := by
  unfold endsOf
  cases e : alk j s.ends with
  | none => simp
  | some es => exact hi.nd _ (alk_mem e)
theorem rngD_map (n : Nat) : rngD n = (List.range n).map fun i => D.int (i : Nat) := rfl
theorem atI_nat (ds : List D) (i : Nat) : atI ds (i : Int) = ds[i]? := by
  unfold atI ixN
  rw [if_pos (by omega)]
  by_cases h : (i : Int) < ds.length
  · rw [if_pos h]; show ds[(i : Int).toNat]? = _; rw [Int.toNat_natCast]
  · rw [if_neg h]; exact (List.getElem?_eq_none (by omega)).symm
theorem ix_nat (ds : List D) (i : Nat) : fIx (.tup ds) (.int (i : Int)) Q = ∃ d, ds[i]? = some d ∧ Q d := by rw [x_ixT, atI_nat]
def isDoneAt (es : List End) (i : Nat) : Bool := match es[i]? with
  | some e => decide (e.word = "done")
  | none => false
def doneAt (es : List End) : List Nat := (List.range es.length).filter (isDoneAt es)
theorem doneAt_nil : doneAt [] = [] := rfl
theorem doneAt_snoc {es : List End} {e : End} (h : ∀ x ∈ es, x.word ≠ "done") : doneAt (es ++ [e]) = if e.word = "done" then [es.length] else [] := by
  unfold doneAt
  rw [List.length_append, List.length_singleton, List.range_succ, List.filter_append]
  have e1 : (List.range es.length).filter (isDoneAt (es ++ [e])) = [] := by
    rw [List.filter_eq_nil_iff]
    intro i hi
    rw [List.mem_range] at hi
    unfold isDoneAt
    rw [List.getElem?_append_left hi, List.getElem?_eq_getElem hi]
    simpa using h _ (List.getElem_mem hi)
  rw [e1, List.nil_append]
  by_cases c : e.word = "done"
  · rw [if_pos c]; simp [c, isDoneAt]
  · rw [if_neg c]; simp [c, isDoneAt]
theorem p_lout (hi : Inv s) (hj : (jobOf s.book j).isSome = true) (hl : (endsOf s j).length ≤ 1000) (q : Q (outD (outS s j))) : g_l_outcome_of [stD lay s, .str j] Q := by
  obtain ⟨job, ej⟩ := Option.isSome_iff_exists.mp hj
  have et : triesOf s j = job.tries := by unfold triesOf; rw [ej]; rfl
  have hel := endsOf_el hi hj
  have hnd := endsOf_nd (j := j) hi
  unfold g_l_outcome_of c_l_outcome_of
  unfold outS at q
  have eE : ((alk j s.ends).map fun es => D.tup (es.map endD)).getD (.tup []) = .tup ((endsOf s j).map endD) := by
    unfold endsOf; cases alk j s.ends <;> rfl
  simp [x_var, x_put, eE]
  refine p_ljob hi.bk ?_
  rw [ej]
  simp [optJ, x_put]
  cases hb : alk j s.barred with
  | some n => rw [hb] at q; simp; exact q
  | none =>
    rw [hb] at q
    simp [x_wipe1]
    refine ⟨by omega, ?_⟩
    rw [rngD_map, comp_fm (fun i : Nat => D.int (i : Int)) (fun i => if isDoneAt (endsOf s j) i = true then some (.int (i : Int)) else none) _ _ _ (fun i hi P => by
        rw [List.mem_range] at hi
        simp [x_var, x_put, atI_nat, isDoneAt, List.getElem?_eq_getElem hi]
        split <;> rfl) (by simp; omega), fm_if, List.nil_append]
    rw [show (List.range (endsOf s j).length).filter (isDoneAt (endsOf s j)) = doneAt (endsOf s j) from rfl]
    change fNe (.lst ((doneAt (endsOf s j)).map fun i : Nat => D.int (i : Int))) _ _
    rw [x_neNilL (sh_lst fun d hd => by obtain ⟨i, _, rfl⟩ := List.mem_map.mp hd; rfl)]
    simp
    rcases List.eq_nil_or_concat (endsOf s j) with h0 | ⟨es, e, h0⟩
    · rw [h0] at q hel ⊢
      simp [doneAt_nil]
      have : ¬ (0 : Int) = triesOf s j := by have := (hi.bk.tr job (jobOf_mem ej).1).1; omega
      unfold outE at q
      simp only [List.getLast?_nil] at q
      rw [if_neg this] at q
      rw [if_neg (by omega)]
      exact q
    · rw [List.concat_eq_append] at h0
      rw [h0] at q hel hnd ⊢
      rw [List.dropLast_concat] at hnd
      rw [doneAt_snoc hnd]
      unfold outE at q
      simp only [List.getLast?_append, List.getLast?_singleton, Option.some_or] at q
      by_cases c : e.word = "done"
      · rw [if_pos c] at q ⊢
        simp [atI_nat]
        simp [outD] at q
        exact q
      · rw [if_neg c] at q ⊢
        simp
        simp at hel
        by_cases c2 : ((es ++ [e]).length : Int) = triesOf s j
        · rw [if_pos c2] at q
          simp at c2
          rw [if_pos (by omega)]
          rw [et] at q
          exact q
        · rw [if_neg c2] at q
          simp at c2
          rw [if_neg (by omega)]
          exact q
end
end E64
/-! the law's own reckoning: what hinders -/
namespace E64
open PySem PySem.Spec PyProof.Rows L2
section
variable {lay : Bool} {s : St} {j : Str} {Q : D → Prop}
theorem tries_le (hb : BookOk s.book) : triesOf s j ≤ 3 := by
  unfold triesOf
  cases e : jobOf s.book j with
  | none => simp
  | some job => exact (hb.tr job (jobOf_mem e).1).2
theorem Inv.ok (hi : Inv s) : sOk s := fun p hp => by
  have := hi.el p hp
  have := tries_le (j := p.1) hi.bk
  omega
theorem Inv.lenE (hi : Inv s) : (endsOf s j).length ≤ 3 := by
  unfold endsOf
  cases e : alk j s.ends with
  | none => simp
  | some es =>
    have := hi.el _ (alk_mem e)
    have := tries_le (j := j) hi.bk
    simp at this ⊢
    simp at *
    omega
theorem p_lout' (hi : Inv s) (hj : (jobOf s.book j).isSome = true) (q : Q (outD (outS s j))) : g_l_outcome_of [stD lay s, .str j] Q := p_lout hi hj (by have := hi.lenE (j := j); omega) q
theorem isD_out (o : Option Out) (Q : D → Prop) (P : Bool → Prop) (h : o ≠ none) : (fIx (outD o) (.int 0) fun x => fEq x (.str "done") Q) ↔ Q (.bl (isDoneO o)) := by
  have e1 : decide (("barred" : Str) = "done") = false := by decide +kernel
  have e2 : decide (("failed" : Str) = "done") = false := by decide +kernel
  cases o with
  | none => exact absurd rfl h
  | some o => cases o <;> simp [outD, isDoneO, e1, e2]
theorem isD_outN (o : Option Out) (Q : D → Prop) (h : o ≠ none) : (fIx (outD o) (.int 0) fun x => fNe x (.str "done") Q) ↔ Q (.bl (!isDoneO o)) := by
  have e1 : decide (("barred" : Str) = "done") = false := by decide +kernel
  have e2 : decide (("failed" : Str) = "done") = false := by decide +kernel
  cases o with
  | none => exact absurd rfl h
  | some o => cases o <;> simp [outD, isDoneO, e1, e2]
/-- does n hinder -/
def hinders (s : St) (job : Job) (n : Str) : Bool := (outS s n).isNone || (decide (job.mode = "all") && !isDoneO (outS s n))
theorem hindL_is (job : Job) : hindL s job = job.needs.filter (hinders s job) := by
  unfold hindL
  split
  · rename_i c
    refine List.filter_congr fun n _ => ?_
    unfold hinders
    cases outS s n with
    | none => simp [isDoneO]
    | some o => simp [c]
  · rename_i c
    refine List.filter_congr fun n _ => ?_
    unfold hinders
    simp [c]
theorem p_lwaits (hi : Inv s) {job : Job} (ej : jobOf s.book j = some job) (q : Q (.lst ((hindL s job).map .str))) : g_l_waits [stD lay s, .str j] Q := by
  obtain ⟨m1, m2⟩ := jobOf_mem ej
  unfold g_l_waits c_l_waits
  simp [x_var, sParO]
  refine p_ljob hi.bk ?_
  rw [ej]
  simp [optJ, x_put, Env.own, x_var]
  have key : ∀ (ns : List Str) (sl : List (Option D)) (acc : List Str), sl.length = 6 → sl[0]? = some (some (stD lay s)) → sl[2]? = some (some (jobD job)) → (∀ n ∈ ns, (jobOf s.book n).isSome = true) → acc.length + ns.length ≤ 1000 → Q (.lst ((acc ++ ns.filter (hinders s job)).map .str)) →
      forW (gN 4) (sSeq (sSet 5 (cCall 2 g_l_outcome_of (aCons (cVar 0) (aCons (cVar 4) (aNil)))))
        (sIf (cOr (cTest (cOp fIs (cVar 5) (cC .non))) (cAnd (cTest (cOp fEq (cOp fIx (cVar 2) (cC (.int 1))) (cC (.str "all")))) (cTest (cOp fNe (cOp fIx (cVar 5) (cC (.int 0))) (cC (.str "done")))))) (sApp 3 (cVar 4)) (sNil))) (ns.map .str) ⟨sl, some (3, .lst (acc.map .str))⟩ (fun e => sRetO 3 e (fun _ => Q .non) Q) Q := by
    intro ns
    induction ns with
    | nil => intro sl acc _ _ _ _ _ q; exact ⟨_, rfl, by simpa using q⟩
    | cons n ns ih =>
      intro sl acc hl h0 h2 hn hla q
      rw [List.map_cons, x_fW1]
      simp only [List.length_cons] at hla
      simp only [x_gN, x_putO, show ((3 : Nat) = 4) = False by simp, if_false, x_seq, x_set, x_call, x_acons, x_anil]
      have g0 : (sl.set 4 (some (D.str n)))[0]? = some (some (stD lay s)) := by rw [List.getElem?_set_ne (by decide)]; exact h0
      have g4 : (sl.set 4 (some (D.str n)))[4]? = some (some (.str n)) := by simp [hl]
      refine ⟨_, g0, _, g4, rfl, p_lout' hi (hn n List.mem_cons_self) ?_⟩
      simp only [x_putO, show ((3 : Nat) = 5) = False by simp, if_false]
      have k0 : ((sl.set 4 (some (D.str n))).set 5 (some (outD (outS s n))))[0]? = some (some (stD lay s)) := by rw [List.getElem?_set_ne (by decide)]; exact g0
      have k2 : ((sl.set 4 (some (D.str n))).set 5 (some (outD (outS s n))))[2]? = some (some (jobD job)) := by rw [List.getElem?_set_ne (by decide), List.getElem?_set_ne (by decide)]; exact h2
      have k4 : ((sl.set 4 (some (D.str n))).set 5 (some (outD (outS s n))))[4]? = some (some (.str n)) := by rw [List.getElem?_set_ne (by decide)]; exact g4
      have k5 : ((sl.set 4 (some (D.str n))).set 5 (some (outD (outS s n))))[5]? = some (some (outD (outS s n))) := by simp [hl]
      have kl : ((sl.set 4 (some (D.str n))).set 5 (some (outD (outS s n)))).length = 6 := by simp [hl]
      generalize ((sl.set 4 (some (D.str n))).set 5 (some (outD (outS s n)))) = sl' at k0 k2 k4 k5 kl
      rw [x_if]
      have step : ∀ b : Bool, b = hinders s job n → if b = true then sApp 3 (cVar 4) ⟨sl', some (3, .lst (acc.map .str))⟩ (fun env2 => forW (gN 4) (sSeq (sSet 5 (cCall 2 g_l_outcome_of (aCons (cVar 0) (aCons (cVar 4) (aNil)))))
        (sIf (cOr (cTest (cOp fIs (cVar 5) (cC .non))) (cAnd (cTest (cOp fEq (cOp fIx (cVar 2) (cC (.int 1))) (cC (.str "all")))) (cTest (cOp fNe (cOp fIx (cVar 5) (cC (.int 0))) (cC (.str "done")))))) (sApp 3 (cVar 4)) (sNil))) (ns.map .str) env2 (fun e => sRetO 3 e (fun _ => Q .non) Q) Q) Q else forW (gN 4) (sSeq (sSet 5 (cCall 2 g_l_outcome_of (aCons (cVar 0) (aCons (cVar 4) (aNil)))))
        (sIf (cOr (cTest (cOp fIs (cVar 5) (cC .non))) (cAnd (cTest (cOp fEq (cOp fIx (cVar 2) (cC (.int 1))) (cC (.str "all")))) (cTest (cOp fNe (cOp fIx (cVar 5) (cC (.int 0))) (cC (.str "done")))))) (sApp 3 (cVar 4)) (sNil))) (ns.map .str) ⟨sl', some (3, .lst (acc.map .str))⟩ (fun e => sRetO 3 e (fun _ => Q .non) Q) Q := by
        intro b eb
        subst eb
        by_cases c : hinders s job n = true
        · rw [if_pos c]
          rw [List.filter_cons_of_pos c] at q
          refine ⟨_, rfl, _, k4, by simp; omega, ?_⟩
          have := ih sl' (acc ++ [n]) kl k0 k2 (fun x hx => hn x (List.mem_cons_of_mem _ hx)) (by simp; omega) (by simpa using q)
          simpa using this
        · rw [if_neg c]
          rw [List.filter_cons_of_neg c] at q
          exact ih sl' acc kl k0 k2 (fun x hx => hn x (List.mem_cons_of_mem _ hx)) (by omega) q
      unfold hinders at step
      simp only [x_or, x_and, x_test, x_op, x_c, x_var, k5, k2, x_exo2, x_is, isB_bl, isN_out, j_1, x_eqS, x_nil]
      cases ho : outS s n with
      | none =>
        have := step true (by rw [ho]; rfl)
        simpa using this
      | some o =>
        simp only [Option.isNone_some, Bool.false_eq_true, if_false]
        by_cases c : job.mode = "all"
        · simp only [c, decide_true, if_true]
          rw [isD_outN _ _ (by simp), isB_bl]
          exact step _ (by rw [ho]; simp [c])
        · simp only [c, decide_false, Bool.false_eq_true, if_false]
          have := step false (by rw [ho]; simp [c])
          simpa using this
  have := key job.needs [some (stD lay s), some (.str j), some (jobD job), none, none, none] [] rfl rfl rfl (hi.bk.needs job m1) (by have := hi.bk.ln job m1; simp; omega) (by rw [List.nil_append, ← hindL_is]; exact q)
  exact this
end
end E64
/-! the law's own reckoning: what is left, what hinders a grant -/
namespace E64
open PySem PySem.Spec PyProof.Rows L2
section
variable {lay : Bool} {s : St} {j : Str} {Q : D → Prop}
theorem x_exu (l : List (Str × Int)) (Q : List (Str × D) → Prop) : (∃ kvs, (some (1, uD l) : Option (Nat × D)) = some (1, .dct kvs) ∧ Q kvs) ↔ Q (l.map fun p => (p.1, D.int p.2)) := ⟨fun ⟨k, e, h⟩ => by cases e; exact h, fun h => ⟨_, rfl, h⟩⟩
theorem p_lleft (hb : BookOk s.book) (hh : HeldIn s) (q : Q (uD (freeOf s))) : g_l_left [stD lay s] Q := by
  unfold g_l_left c_l_left
  simp [x_var, sOwn]
  refine x_dictU hb.tnod _ ?_
  simp [Env.own, wKeys, cPk]
  have inner : ∀ (us : List (Str × Int)) (sl : List (Option D)) (m : List (Str × Int)) (Nx : Env → Prop), sl.length = 5 → (∀ u ∈ us, u.1 ∈ m.map (·.1)) → m.length ≤ 8 →
      (∀ sl', sl'.length = 5 → sl'[0]? = sl[0]? → Nx ⟨sl', some (1, uD (us.foldl subU m))⟩) → forW (gT [3, 4]) (sPut 1 (cVar 3) (cOp fSub (cGetO 1 (cVar 3)) (cVar 4))) (us.map useD) ⟨sl, some (1, uD m)⟩ Nx Q := by
    intro us
    induction us with
    | nil => intro sl m Nx hl _ _ k; exact k sl hl rfl
    | cons u us ih =>
      intro sl m Nx hl hu hm k
      rw [List.map_cons, x_fW1]
      simp only [useD, x_gT, List.length_cons, List.length_nil, true_and, x_puts1, x_puts0]
      simp only [x_putO, show ((1 : Nat) = 3) = False by simp, show ((1 : Nat) = 4) = False by simp, if_false]
      obtain ⟨v, hv⟩ := Option.isSome_iff_exists.mp (alk_isSome.mpr (hu u List.mem_cons_self))
      refine ⟨_, rfl, ⟨_, rfl, .str u.1, by simp [hl], u.1, .int v, rfl, by rw [lk_map D.int, hv]; rfl, .int u.2, by simp [hl], .str u.1, by simp [hl], u.1, rfl, by rw [List.length_map]; omega, ?_⟩⟩
      have e : putD (m.map fun p => (p.1, D.int p.2)) u.1 (.int (v - u.2)) = (subU m u).map fun p => (p.1, D.int p.2) := by
        rw [putD_map D.int]; unfold subU; rw [hv]; rfl
      rw [e]
      have ek := subU_keys (hu u List.mem_cons_self)
      refine ih _ _ _ (by simp [hl]) (fun x hx => by rw [ek]; exact hu x (List.mem_cons_of_mem _ hx)) (by have := congrArg List.length ek; simp only [List.length_map] at this; omega) fun sl' h1 h2 => ?_
      exact k sl' h1 (by rw [h2]; simp)
  have outer : ∀ (hs : List (Str × Hold)) (sl : List (Option D)) (m : List (Str × Int)) (Nx : Env → Prop), sl.length = 5 → sl[0]? = some (some (stD lay s)) → (∀ p ∈ hs, (jobOf s.book p.1).isSome = true) → m.map (·.1) = s.book.things.map (·.1) →
      (∀ sl', sl'.length = 5 → sl'[0]? = some (some (stD lay s)) → Nx ⟨sl', some (1, uD (hs.foldl (fun l h => (usesOf s.book h.1).foldl subU l) m))⟩) →
      forW (gN 2) (sFor (wTup (cOp fIx (cCall 2 g_l_job (aCons (cDGet (cVar 0) (cC (.str "book"))) (aCons (cVar 2) (aNil)))) (cC (.int 4)))) (gT [3, 4]) (sPut 1 (cVar 3) (cOp fSub (cGetO 1 (cVar 3)) (cVar 4)))) (hs.map fun p => D.str p.1) ⟨sl, some (1, uD m)⟩ Nx Q := by
    intro hs
    induction hs with
    | nil => intro sl m Nx hl h0 _ _ k; exact k sl hl h0
    | cons h hs ih =>
      intro sl m Nx hl h0 hj hm k
      rw [List.map_cons, x_fW1]
      simp only [x_gN, x_putO, show ((1 : Nat) = 2) = False by simp, if_false]
      obtain ⟨job, ej⟩ := Option.isSome_iff_exists.mp (hj h List.mem_cons_self)
      have e0 : (sl.set 2 (some (D.str h.1)))[0]? = some (some (stD lay s)) := by rw [List.getElem?_set_ne (by decide)]; exact h0
      have e2 : (sl.set 2 (some (D.str h.1)))[2]? = some (some (D.str h.1)) := by simp [hl]
      simp [x_var, e2, h0]
      refine p_ljob hb ?_
      rw [ej]
      simp [optJ]
      have eu : job.uses = usesOf s.book h.1 := by unfold usesOf; rw [ej]; rfl
      have hlen : m.length = s.book.things.length := by have := congrArg List.length hm; simpa using this
      rw [eu]
      refine inner _ _ _ _ (by simp [hl]) (fun u hu => by rw [hm]; exact usesOf_ok hb u hu) (by have := hb.lt; omega) fun sl' h1 h2 => ?_
      refine ih sl' _ _ h1 (by rw [h2]; exact e0) (fun p hp => hj p (List.mem_cons_of_mem _ hp)) (by rw [subs_keys fun u hu => by rw [hm]; exact usesOf_ok hb u hu, hm]) fun sl'' h3 h4 => ?_
      exact k sl'' h3 h4
  refine outer s.holds _ _ _ (by simp) rfl hh rfl fun sl' hl h0 => ?_
  exact ⟨_, rfl, q⟩
theorem okStrs {l : List Str} (h : ∀ x ∈ l, PyData.strOk x = true) : ∀ d ∈ l.map D.str, atom d = true := fun d hd => by
  obtain ⟨x, hx, rfl⟩ := List.mem_map.mp hd
  exact h x hx
/-- all names in the book are laid out in order -/
structure Named (s : St) : Prop where
  nd : ∀ j ∈ s.book.jobs, ∀ n ∈ j.needs, PyData.strOk n = true
  us : ∀ j ∈ s.book.jobs, ∀ u ∈ j.uses, PyData.strOk u.1 = true
theorem short_is (free us : List (Str × Int)) : (us.filter fun u => decide ((alk u.1 free).getD 0 < u.2)).head? = shortU free us := by
  unfold shortU
  exact List.head?_filter
theorem p_lhind (hi : Inv s) (hn : Named s) (q : Q (barsD s j)) : g_l_hindered [stD lay s, .str j] Q := by
  unfold g_l_hindered c_l_hindered
  simp [x_var]
  refine p_ljob hi.bk ?_
  unfold barsD at q
  cases ej : jobOf s.book j with
  | none => simp [optJ, x_put, x_var, ej] at q ⊢; exact q
  | some job =>
    have hj : (jobOf s.book j).isSome = true := by rw [ej]; rfl
    obtain ⟨m1, m2⟩ := jobOf_mem ej
    rw [ej] at q
    simp [optJ, x_put, x_var]
    simp only [] at q
    refine p_lout' hi hj ?_
    cases ho : outS s j with
    | some o =>
      rw [ho] at q
      simp [isN_out]
      refine p_lout' hi hj ?_
      rw [ho]
      simp [isN_out]
      exact q
    | none =>
    rw [ho] at q
    simp [isN_out]
    simp only [Option.isSome_none, Bool.false_eq_true, if_false] at q
    by_cases c2 : (alk j s.holds).isSome = true
    · rw [if_pos c2] at q; rw [if_pos c2]
      refine p_lout' hi hj ?_
      rw [ho]
      simp [isN_out]
      exact q
    rw [if_neg c2] at q; rw [if_neg c2]
    by_cases c3 : s.time < job.start
    · rw [if_pos c3] at q; rw [if_pos c3]; exact q
    rw [if_neg c3] at q; rw [if_neg c3]
    refine p_lwaits hi ej ?_
    refine p_lleft hi.bk hi.held ?_
    simp [x_put]
    rw [x_neNilL (sh_lst (okStrs fun n hn' => hn.nd job m1 n (hind_in hn')))]
    have hnd : ((freeOf s).map (·.1)).Nodup := by rw [free_keys hi.bk]; exact hi.bk.tnod
    cases eh : hindL s job with
    | cons n ns => rw [eh] at q; simp; exact q
    | nil =>
      rw [eh] at q
      simp only [] at q
      simp [x_wipe2]
      have hu : ∀ u ∈ job.uses, u.1 ∈ (freeOf s).map (·.1) := fun u hu => by rw [free_keys hi.bk]; exact hi.bk.uses job m1 u hu
      rw [comp_fm useD (fun u => if decide ((alk u.1 (freeOf s)).getD 0 < u.2) = true then some (.str u.1) else none) _ _ _ (fun u hu' P => ?_) (by have := hi.bk.lu job m1; simp; omega), fm_if, List.nil_append]
      · have hs : ∀ d ∈ ((job.uses.filter fun u => decide ((alk u.1 (freeOf s)).getD 0 < u.2)).map fun u => D.str u.1), atom d = true := fun d hd => by
          obtain ⟨u, hu, rfl⟩ := List.mem_map.mp hd
          exact hn.us job m1 u (List.mem_filter.mp hu).1
        rw [x_neNilL (sh_lst hs)]
        rw [← short_is] at q
        cases ef : job.uses.filter (fun u => decide ((alk u.1 (freeOf s)).getD 0 < u.2)) with
        | nil => rw [ef] at q; simp; exact q
        | cons u us => rw [ef] at q; simp; exact q
      · obtain ⟨v, hv⟩ := Option.isSome_iff_exists.mp (alk_isSome.mpr (hu u hu'))
        simp only [useD, x_gT, List.length_cons, List.length_nil, true_and, x_puts1, x_puts0, x_put]
        simp only [x_test, x_op, x_dget, x_var, List.getElem?_cons_zero, List.getElem?_cons_succ, List.set_cons_succ, List.set_cons_zero, x_exo2]
        rw [x_dgetU]
        constructor
        · rintro ⟨v', e, h⟩
          rw [e]
          simp at h ⊢
          by_cases c : v' < u.2
          · rw [if_pos c] at h ⊢; exact h
          · rw [if_neg c] at h ⊢; exact h
        · intro h
          refine ⟨v, hv, ?_⟩
          rw [hv] at h
          simp at h ⊢
          by_cases c : v < u.2
          · rw [if_pos c] at h ⊢; exact h
          · rw [if_neg c] at h ⊢; exact h
theorem p_lbarring (hi : Inv s) (hn : Named s) (hj : (jobOf s.book j).isSome = true) (q : Q (optS (needS s j))) : g_l_barring [stD lay s, .str j] Q := by
  obtain ⟨job, ej⟩ := Option.isSome_iff_exists.mp hj
  obtain ⟨m1, m2⟩ := jobOf_mem ej
  unfold needS at q
  rw [ej] at q
  simp only [] at q
  have hs : ∀ d ∈ (hindL s job).map D.str, atom d = true := okStrs fun n hn' => hn.nd job m1 n (hind_in hn')
  unfold g_l_barring c_l_barring
  simp [x_var]
  refine p_lwaits hi ej ?_
  simp [x_put, x_var]
  refine p_ljob hi.bk ?_
  rw [ej]
  simp [optJ]
  by_cases c1 : job.mode = "all"
  · rw [if_pos c1]
    refine p_lout' hi hj ?_
    cases ho : outS s j with
    | some o =>
      rw [if_neg (by rw [ho]; simp)] at q
      simp [isN_out]
      exact q
    | none =>
      rw [if_pos ⟨c1, by rw [ho]; rfl⟩] at q
      simp [isN_out]
      rw [x_eqNilL (sh_lst hs)]
      cases eh : hindL s job with
      | nil => rw [eh] at q; simp; exact q
      | cons n ns =>
        rw [eh] at q
        simp
        refine p_lout' hi (hi.bk.needs job m1 n (hind_in (by rw [eh]; exact List.mem_cons_self))) ?_
        simp only [] at q
        cases hon : outS s n with
        | none => rw [hon] at q; simp [isN_out]; exact q
        | some o => rw [hon] at q; simp [isN_out]; exact q
  · rw [if_neg (fun z => c1 z.1)] at q
    rw [if_neg c1]
    exact q
theorem p_lvalues (hi : Inv s) (hj : (jobOf s.book j).isSome = true) (q : Q (resD s j)) : g_l_values [stD lay s, .str j] Q := by
  obtain ⟨job, ej⟩ := Option.isSome_iff_exists.mp hj
  obtain ⟨m1, m2⟩ := jobOf_mem ej
  unfold g_l_values c_l_values
  simp [x_var, sOwn, Env.own]
  refine p_ljob hi.bk ?_
  rw [ej]
  simp [optJ]
  have key : ∀ (ns : List Str) (sl : List (Option D)) (acc : List Str), sl.length = 5 → sl[0]? = some (some (stD lay s)) → (∀ n ∈ ns, (jobOf s.book n).isSome = true) → acc.length + ns.length ≤ 1000 → Q (.tup ((acc ++ ns).map fun n => .tup [.str n, valO (outS s n)])) →
      forW (gN 3) (sSeq (sSet 4 (cCall 2 g_l_outcome_of (aCons (cVar 0) (aCons (cVar 3) (aNil)))))
        (sApp 2 (cTup (aCons (cVar 3) (aCons (cIf (cAnd (cTest (cOp fIsNot (cVar 4) (cC .non))) (cTest (cOp fEq (cOp fIx (cVar 4) (cC (.int 0))) (cC (.str "done"))))) (cOp fIx (cVar 4) (cC (.int 2))) (cC .non)) (aNil)))))) (ns.map .str) ⟨sl, some (2, .lst (acc.map fun n => D.tup [.str n, valO (outS s n)]))⟩ (fun e => cTupO 2 e Q) Q := by
    intro ns
    induction ns with
    | nil => intro sl acc _ _ _ _ q; exact ⟨_, rfl, by simpa using q⟩
    | cons n ns ih =>
      intro sl acc hl h0 hn hla q
      rw [List.map_cons, x_fW1]
      simp only [List.length_cons] at hla
      simp only [x_gN, x_putO, show ((2 : Nat) = 3) = False by simp, if_false, x_seq, x_set, x_call, x_acons, x_anil]
      have g0 : (sl.set 3 (some (D.str n)))[0]? = some (some (stD lay s)) := by rw [List.getElem?_set_ne (by decide)]; exact h0
      have g3 : (sl.set 3 (some (D.str n)))[3]? = some (some (.str n)) := by simp [hl]
      refine ⟨_, g0, _, g3, rfl, p_lout' hi (hn n List.mem_cons_self) ?_⟩
      simp only [x_putO, show ((2 : Nat) = 4) = False by simp, if_false]
      have k0 : ((sl.set 3 (some (D.str n))).set 4 (some (outD (outS s n))))[0]? = some (some (stD lay s)) := by rw [List.getElem?_set_ne (by decide)]; exact g0
      have k3 : ((sl.set 3 (some (D.str n))).set 4 (some (outD (outS s n))))[3]? = some (some (.str n)) := by rw [List.getElem?_set_ne (by decide)]; exact g3
      have k4 : ((sl.set 3 (some (D.str n))).set 4 (some (outD (outS s n))))[4]? = some (some (outD (outS s n))) := by simp [hl]
      have kl : ((sl.set 3 (some (D.str n))).set 4 (some (outD (outS s n)))).length = 5 := by simp [hl]
      generalize ((sl.set 3 (some (D.str n))).set 4 (some (outD (outS s n)))) = sl' at k0 k3 k4 kl
      have fin : ∀ v, v = valO (outS s n) → (2 ≤ 100000 ∧ (acc.map fun n => D.tup [.str n, valO (outS s n)]).length < 100000 ∧ forW (gN 3) (sSeq (sSet 4 (cCall 2 g_l_outcome_of (aCons (cVar 0) (aCons (cVar 3) (aNil)))))
        (sApp 2 (cTup (aCons (cVar 3) (aCons (cIf (cAnd (cTest (cOp fIsNot (cVar 4) (cC .non))) (cTest (cOp fEq (cOp fIx (cVar 4) (cC (.int 0))) (cC (.str "done"))))) (cOp fIx (cVar 4) (cC (.int 2))) (cC .non)) (aNil)))))) (ns.map .str) ⟨sl', some (2, .lst ((acc.map fun n => D.tup [.str n, valO (outS s n)]) ++ [.tup [.str n, v]]))⟩ (fun e => cTupO 2 e Q) Q) := by
        intro v ev
        subst ev
        refine ⟨by decide, by simp; omega, ?_⟩
        have := ih sl' (acc ++ [n]) kl k0 (fun x hx => hn x (List.mem_cons_of_mem _ hx)) (by simp; omega) (by simpa using q)
        simpa using this
      refine ⟨_, rfl, ?_⟩
      simp only [x_tup, x_acons, x_anil, x_ifE, x_and, x_test, x_op, x_c, x_var, k3, k4, x_exo2, x_isnot, isB_bl, isN_out]
      cases ho : outS s n with
      | none => simpa using fin .non (by rw [ho]; rfl)
      | some o =>
        simp only [Option.isNone_some, Bool.not_false, if_true]
        rw [isD_out _ _ (fun _ => True) (by simp), isB_bl]
        cases o with
        | done k v => simpa [isDoneO, outD] using fin v (by rw [ho]; rfl)
        | barred k => simpa [isDoneO] using fin .non (by rw [ho]; rfl)
        | failed k => simpa [isDoneO] using fin .non (by rw [ho]; rfl)
  exact key job.needs [some (stD lay s), some (.str j), none, none, none] [] rfl rfl (hi.bk.needs job m1) (by have := hi.bk.ln job m1; simp; omega) (by
    rw [List.nil_append]
    unfold resD needsOf at q
    rw [ej] at q
    exact q)
end
end E64
/-! the law's own reckoning: changes -/
namespace E64
open PySem PySem.Spec PyProof.Rows L2
theorem flds_nd {lay : Bool} {s : St} : ((flds lay s).map (·.1)).Nodup := by
  have e : (flds lay s).map (·.1) = if lay = true then [("book" : Str), "time", "epoch", "moment", "fence", "freed", "holds", "ends", "barred"] else [("book" : Str), "time", "epoch", "moment", "fence", "holds", "ends", "barred", "freed"] := by
    unfold flds; split <;> rfl
  rw [e]
  split <;> decide +kernel
theorem mergeD_append (l a b : List (Str × D)) : mergeD l (a ++ b) = mergeD (mergeD l a) b := by unfold mergeD; rw [List.foldl_append]
theorem lk_mem {l : List (Str × D)} (h : (l.map (·.1)).Nodup) {p : Str × D} (hp : p ∈ l) : lk p.1 l = some p.2 := by rw [lk_alk]; exact (alk_some h).mpr hp
section
variable {lay : Bool} {s : St} {j : Str} {Q : D → Prop}
theorem p_lchanged {ch : List (Str × D)} (hl : ch.length ≤ 100) (q : Q (.dct (mergeD (putD (flds lay s) "moment" (.int (s.moment + 1))) ch))) : g_l_changed [stD lay s, .dct ch] Q := by
  unfold g_l_changed c_l_changed
  simp [x_var, sOwn, wKeys, cPv, x_wipe1]
  have e1 : isDc (stD lay s) True := trivial
  show compW _ _ _ _ ((flds lay s).map fun p => D.str p.1) _ _
  rw [comp_fm (fun p : Str × D => D.str p.1) (fun p => some (.tup [.str p.1, p.2])) _ _ _ (fun p hp P => by
    simp [x_put, x_var]
    show (∃ d, lk p.1 (flds lay s) = some d ∧ _) ↔ _
    rw [lk_mem flds_nd hp]
    simp) (by rw [flds_len]; decide), fm_some, List.nil_append]
  simp
  refine ⟨by rw [flds_len]; decide, flds lay s ++ [(("moment" : Str), D.int (s.moment + 1))], by simp [itemsD], ?_⟩
  simp [Env.own, sUpd, x_var, sRetO]
  rw [mergeD_append, flds_self, m_cons, m_nil]
  have hm : (putD (flds lay s) "moment" (.int (s.moment + 1))).length ≤ 9 := by rw [set_moment, flds_len]; exact Nat.le_refl _
  exact ⟨by omega, q⟩
/-- without k -/
def outF {α : Type} (l : List (Str × α)) (k : Str) : List (Str × α) := l.filter fun p => !decide (p.1 = k)
theorem outF_map {α : Type} (f : α → D) (l : List (Str × α)) (k : Str) : outF (l.map fun p => (p.1, f p.2)) k = (outF l k).map fun p => (p.1, f p.2) := by
  unfold outF
  rw [List.filter_map]
  rfl
theorem outF_none {α : Type} {l : List (Str × α)} {k : Str} (h : alk k l = none) : outF l k = l := by
  unfold outF
  rw [List.filter_eq_self]
  intro p hp
  have := alk_none.mp h
  simp
  intro e
  exact this (List.mem_map.mpr ⟨p, hp, e⟩)
theorem outF_key {α : Type} {l : List (Str × α)} {k : Str} : k ∉ (outF l k).map (·.1) := fun z => by
  obtain ⟨p, hp, e⟩ := List.mem_map.mp z
  have := (List.mem_filter.mp hp).2
  simp [e] at this
theorem outF_sub {α : Type} {l : List (Str × α)} {k : Str} : ((outF l k).map (·.1)).Sublist (l.map (·.1)) := List.filter_sublist.map _
theorem p_lwith {kvs : List (Str × D)} {n : Str} {w : D} (hn : (kvs.map (·.1)).Nodup) (hl : kvs.length ≤ 1000) (q : Q (.dct (if isN w = true then outF kvs n else outF kvs n ++ [(n, w)]))) : g_l_with [.dct kvs, .str n, w] Q := by
  unfold g_l_with c_l_with
  simp [x_var, sOwn, wKeys, cPv, x_wipe1]
  rw [comp_fm (fun p : Str × D => D.str p.1) (fun p => if (!decide (p.1 = n)) = true then some (.tup [.str p.1, p.2]) else none) _ _ _ (fun p hp P => by
    simp [x_put, x_var]
    by_cases c : p.1 = n
    · rw [if_pos c, if_pos c]
    · rw [if_neg c, if_neg c, lk_mem hn hp]
      simp) (by simp; omega), fm_if, List.nil_append]
  refine ⟨outF kvs n, rfl, ?_⟩
  rw [mergeD_nil (hn.sublist outF_sub)]
  simp [Env.own, x_var]
  have hle : (outF kvs n).length ≤ kvs.length := List.length_filter_le _ _
  by_cases c : isN w = true
  · rw [if_pos c] at q ⊢
    exact ⟨_, rfl, q⟩
  · rw [if_neg c] at q ⊢
    refine ⟨_, rfl, _, rfl, _, rfl, n, rfl, by omega, ?_⟩
    rw [putD_fresh outF_key]
    exact ⟨_, rfl, q⟩
end
end E64
/-! what every letter leaves standing -/
namespace E64
open PySem PySem.Spec PyProof.Rows L2
section
variable {α : Type}
theorem alk_c {k a : Str} {b : α} {l : List (Str × α)} : alk k ((a, b) :: l) = if a = k then some b else alk k l := rfl
theorem nd_inj {β : Type} {f : α → β} : ∀ {l : List α} {x y : α}, (l.map f).Nodup → x ∈ l → y ∈ l → f x = f y → x = y
  | z :: l, x, y, h, hx, hy, e => by
    simp only [List.map_cons, List.nodup_cons] at h
    rcases List.mem_cons.mp hx with gx | gx <;> rcases List.mem_cons.mp hy with gy | gy
    · rw [gx, gy]
    · exact absurd (List.mem_map.mpr ⟨y, gy, by rw [← e, gx]⟩) h.1
    · exact absurd (List.mem_map.mpr ⟨x, gx, by rw [e, gy]⟩) h.1
    · exact nd_inj h.2 gx gy e
theorem alk_outF {l : List (Str × α)} {j k : Str} (h : k ≠ j) : alk k (outF l j) = alk k l := by
  induction l with
  | nil => rfl
  | cons p l ih =>
    unfold outF at ih ⊢
    by_cases c : p.1 = j
    · rw [List.filter_cons_of_neg (by simp [c]), ih]
      obtain ⟨a, b⟩ := p
      rw [alk_c, if_neg (fun z => h (by rw [← z]; exact c))]
    · rw [List.filter_cons_of_pos (by simp [c])]
      obtain ⟨a, b⟩ := p
      rw [alk_c, alk_c, ih]
theorem alk_app {l m : List (Str × α)} {k : Str} : alk k (l ++ m) = (alk k l).or (alk k m) := by
  induction l with
  | nil => rfl
  | cons p l ih =>
    obtain ⟨a, b⟩ := p
    rw [List.cons_append, alk_c, alk_c, ih]
    split <;> rfl
theorem alk_apt {l : List (Str × α)} {j k : Str} {v : α} : alk k (apt l j v) = if k = j then some v else alk k l := by
  unfold apt
  by_cases c : (l.any fun p => decide (p.1 = j)) = true
  · rw [if_pos c]
    have hk := any_key.mp c
    induction l with
    | nil => simp at hk
    | cons p l ih =>
      obtain ⟨a, b⟩ := p
      rw [List.map_cons]
      by_cases ca : a = j
      · simp only [ca, if_true]
        unfold alk
        by_cases ck : k = j
        · rw [if_pos ck.symm, if_pos ck]
        · rw [if_neg (fun z => ck z.symm), if_neg ck, if_neg (fun z => ck z.symm)]
          by_cases ex : j ∈ l.map (·.1)
          · rw [ih (any_key.mpr ex) ex, if_neg ck]
          · have : (l.map fun p => if p.1 = j then (p.1, v) else p) = l := by
              have := List.map_congr_left (f := fun p : Str × α => if p.1 = j then (p.1, v) else p) (g := fun p => p) (l := l) (fun p hp => if_neg fun z => ex (List.mem_map.mpr ⟨p, hp, z⟩))
              rw [this, List.map_id']
            rw [this]
      · simp only [ca, if_false]
        unfold alk
        have ex : j ∈ l.map (·.1) := by
          rw [List.map_cons, List.mem_cons] at hk
          rcases hk with z | z
          · exact absurd z.symm ca
          · exact z
        rw [ih (any_key.mpr ex) ex]
        by_cases ck : k = j
        · rw [if_pos ck, if_neg (fun z => ca (by rw [z, ck])), if_pos ck]
        · rw [if_neg ck, if_neg ck]
  · rw [if_neg c, alk_app]
    by_cases ck : k = j
    · rw [if_pos ck]
      have : alk k l = none := alk_none.mpr (by rw [ck]; exact fun z => c (any_key.mpr z))
      rw [this]
      simp [alk, ck]
    · rw [if_neg ck]
      have : alk k [(j, v)] = none := by unfold alk; rw [if_neg (fun z => ck z.symm)]; rfl
      rw [this, Option.or_none]
theorem apt_mem {l : List (Str × α)} {j : Str} {v : α} {p : Str × α} (h : p ∈ apt l j v) : p = (j, v) ∨ p ∈ l := by
  unfold apt at h
  split at h
  · obtain ⟨q, hq, rfl⟩ := List.mem_map.mp h
    split
    · rename_i c; left; rw [c]
    · exact .inr hq
  · rcases List.mem_append.mp h with z | z
    · exact .inr z
    · exact .inl (List.mem_singleton.mp z)
theorem apt_nd {l : List (Str × α)} {j : Str} {v : α} (h : (l.map (·.1)).Nodup) : ((apt l j v).map (·.1)).Nodup := by
  by_cases c : j ∈ l.map (·.1)
  · rw [apt_keys c]; exact h
  · rw [apt_new c, List.map_append, List.nodup_append]
    refine ⟨h, by simp, fun a ha b hb => ?_⟩
    simp at hb
    subst hb
    exact fun z => c (z ▸ ha)
theorem app_nd {l : List (Str × α)} {j : Str} {v : α} (h : (l.map (·.1)).Nodup) (c : j ∉ l.map (·.1)) : ((l ++ [(j, v)]).map (·.1)).Nodup := by
  rw [List.map_append, List.nodup_append]
  refine ⟨h, by simp, fun a ha b hb => ?_⟩
  simp at hb
  subst hb
  exact fun z => c (z ▸ ha)
end
theorem alk_setE {mv : Bool} {l : List (Str × List End)} {j k : Str} {es : List End} : alk k (setE mv l j es) = if k = j then some es else alk k l := by
  unfold setE
  cases mv with
  | false => rw [if_neg Bool.false_ne_true]; exact alk_apt
  | true =>
    rw [if_pos rfl]
    change alk k (outF l j ++ [(j, es)]) = _
    rw [alk_app]
    by_cases ck : k = j
    · subst ck
      rw [if_pos rfl, alk_none.mpr outF_key]
      simp [alk]
    · rw [if_neg ck, alk_outF ck]
      have : alk k [(j, es)] = none := by unfold alk; rw [if_neg (fun z => ck z.symm)]; rfl
      rw [this, Option.or_none]
theorem setE_mem {mv : Bool} {l : List (Str × List End)} {j : Str} {es : List End} {p : Str × List End} (h : p ∈ setE mv l j es) : p = (j, es) ∨ p ∈ l := by
  unfold setE at h
  split at h
  · rcases List.mem_append.mp h with z | z
    · exact .inr (List.mem_filter.mp z).1
    · exact .inl (List.mem_singleton.mp z)
  · exact apt_mem h
theorem setE_nd {mv : Bool} {l : List (Str × List End)} {j : Str} {es : List End} (h : (l.map (·.1)).Nodup) : ((setE mv l j es).map (·.1)).Nodup := by
  unfold setE
  split
  · exact app_nd (l := outF l j) (h.sublist outF_sub) outF_key
  · exact apt_nd h
/-- the letter carries a plain value -/
def LtOk : Lt → Prop
  | .fin _ _ _ _ (some v) => atom v = true
  | _ => True
theorem outW_ok (o : Option D) : PyData.strOk (outW o) = true := by cases o with
  | none => decide +kernel
  | some v => exact (by decide +kernel : PyData.strOk "done" = true)
theorem outS_of {s t : St} {j : Str} (h1 : t.book = s.book) (h2 : t.ends = s.ends) (h3 : t.barred = s.barred) : outS t j = outS s j := by
  unfold outS endsOf triesOf
  rw [h1, h2, h3]
theorem Inv.of {s t : St} (hi : Inv s) (h1 : t.book = s.book) (h2 : t.holds = s.holds) (h3 : t.ends = s.ends) (h4 : t.barred = s.barred) (h5 : t.freed = s.freed) (h6 : s.fence ≤ t.fence) : Inv t := by
  obtain ⟨tb, tt, te, tm, tf, th, ten, tba, tfr⟩ := t
  simp only at h1 h2 h3 h4 h5
  subst h1 h2 h3 h4 h5
  exact ⟨⟨⟨hi.bk, hi.en⟩, hi.held⟩, hi.hn, hi.en', hi.bn, hi.ei, hi.bi, hi.el, hi.nd, hi.op, hi.hf, fun p hp => Int.le_trans (hi.hle p hp) h6, hi.ff, fun p hp => Int.le_trans (hi.fle p hp) h6, hi.fd, hi.fl⟩
theorem srtF_perm (l : List (Int × List D)) : (srtF l).Perm l := srtB_perm _ l
theorem i_free {s : St} (hi : Inv s) {j : Str} {x : Hold} (hx : alk j s.holds = some x) (hl : s.freed.length < 1000) {m : Int} : Inv { s with holds := outF s.holds j, freed := srtF (s.freed ++ [goneOf s j x]), moment := m } := by
  have hm := alk_mem hx
  have sub : ∀ p ∈ outF s.holds j, p ∈ s.holds := fun p hp => (List.mem_filter.mp hp).1
  refine ⟨⟨⟨hi.bk, hi.en⟩, fun p hp => hi.held p (sub p hp)⟩, hi.hn.sublist outF_sub, hi.en', hi.bn, hi.ei, hi.bi, hi.el, hi.nd, fun p hp => hi.op p (sub p hp), hi.hf.sublist (List.filter_sublist.map _), fun p hp => hi.hle p (sub p hp), ?_, ?_, ?_, ?_⟩
  · exact ((srtF_perm _).map _).nodup_iff.mpr (hi.gone hx)
  · intro p hp
    rcases List.mem_append.mp ((srtF_perm _).mem_iff.mp hp) with z | z
    · exact hi.fle p z
    · rw [List.mem_singleton.mp z]; exact hi.hle _ hm
  · intro p hp q hq
    rcases List.mem_append.mp ((srtF_perm _).mem_iff.mp hq) with z | z
    · exact hi.fd p (sub p hp) q z
    · rw [List.mem_singleton.mp z]
      intro e
      have e' : p.2.fence = (j, x).2.fence := e
      have inj := hi.hf
      have : p = (j, x) := by
        exact nd_inj hi.hf (sub p hp) hm e'
      have := (List.mem_filter.mp hp).2
      simp_all
  · show (srtF (s.freed ++ [goneOf s j x])).length ≤ 1000
    rw [(srtF_perm _).length_eq]; simp; omega
theorem i_fin {s : St} (hi : Inv s) {j : Str} {x : Hold} (hx : alk j s.holds = some x) {mv : Bool} {e : End} (he : EndOk e) {m : Int} : Inv { s with holds := outF s.holds j, ends := setE mv s.ends j (endsOf s j ++ [e]), moment := m } := by
  have hm := alk_mem hx
  have sub : ∀ p ∈ outF s.holds j, p ∈ s.holds := fun p hp => (List.mem_filter.mp hp).1
  have hj := hi.held _ hm
  have ho := hi.op _ hm
  simp only at hj ho
  have hel := endsOf_el hi hj
  have hnd := endsOf_nd (j := j) hi
  have hlast : ∀ y, (endsOf s j).getLast? = some y → y.word ≠ "done" := fun y hy z => by
    unfold outE at ho
    rw [hy] at ho
    simp only [z, if_true] at ho
    cases ho
  have hlt : ((endsOf s j).length : Int) < triesOf s j := by
    suffices hne : ((endsOf s j).length : Int) ≠ triesOf s j by omega
    intro z
    unfold outE at ho
    cases hy : (endsOf s j).getLast? with
    | none =>
      rw [List.getLast?_eq_none_iff] at hy
      rw [hy] at ho z
      simp at ho z
      exact ho z
    | some y =>
      rw [hy] at ho
      simp only [hlast y hy, if_false, z, if_true] at ho
      cases ho
  refine ⟨⟨⟨hi.bk, ?_⟩, fun p hp => hi.held p (sub p hp)⟩, hi.hn.sublist outF_sub, setE_nd hi.en', hi.bn, ?_, hi.bi, ?_, ?_, ?_, hi.hf.sublist (List.filter_sublist.map _), fun p hp => hi.hle p (sub p hp), hi.ff, hi.fle, fun p hp => hi.fd p (sub p hp), hi.fl⟩
  · intro p hp y hy
    rcases setE_mem hp with rfl | z
    · rcases List.mem_append.mp hy with w | w
      · exact endsOf_ok hi.en j y w
      · rw [List.mem_singleton.mp w]; exact he
    · exact hi.en p z y hy
  · intro p hp
    rcases setE_mem hp with rfl | z
    · exact hj
    · exact hi.ei p z
  · intro p hp
    rcases setE_mem hp with rfl | z
    · show (((endsOf s j ++ [e]).length : Nat) : Int) ≤ triesOf s j
      simp; omega
    · exact hi.el p z
  · intro p hp y hy
    rcases setE_mem hp with rfl | z
    · simp only [List.dropLast_concat] at hy
      intro w
      rcases List.eq_nil_or_concat (endsOf s j) with h0 | ⟨es, z, h0⟩
      · rw [h0] at hy; cases hy
      · rw [List.concat_eq_append] at h0
        rw [h0] at hy
        rcases List.mem_append.mp hy with v | v
        · exact hnd y (by rw [h0, List.dropLast_concat]; exact v) w
        · rw [List.mem_singleton] at v
          exact hlast y (by rw [h0, v]; simp) w
    · exact hi.nd p z y hy
  · intro p hp
    have hne : p.1 ≠ j := by have := (List.mem_filter.mp hp).2; simpa using this
    have e1 : endsOf { s with holds := outF s.holds j, ends := setE mv s.ends j (endsOf s j ++ [e]), moment := m } p.1 = endsOf s p.1 := by
      show (alk p.1 (setE mv s.ends j (endsOf s j ++ [e]))).getD [] = _
      rw [alk_setE, if_neg hne]; rfl
    rw [e1]
    exact hi.op p (sub p hp)
theorem i_grant {s : St} (hi : Inv s) {j : Str} (hx : alk j s.holds = none) (hj : (jobOf s.book j).isSome = true) (ho : outS s j = none) {f : Int} (hf : s.fence < f) {h : Hold} (eh : h.fence = f) {m : Int} : Inv { s with fence := f, holds := s.holds ++ [(j, h)], moment := m } := by
  have ho' : outE (endsOf s j) (triesOf s j) = none := by
    unfold outS at ho
    cases hb : alk j s.barred with
    | none => rw [hb] at ho; exact ho
    | some _ => rw [hb] at ho; cases ho
  have cs : ∀ {P : Str × Hold → Prop}, (∀ p ∈ s.holds, P p) → P (j, h) → ∀ p ∈ s.holds ++ [(j, h)], P p := fun h1 h2 p hp => by
    rcases List.mem_append.mp hp with z | z
    · exact h1 p z
    · rw [List.mem_singleton.mp z]; exact h2
  refine ⟨⟨⟨hi.bk, hi.en⟩, cs hi.held hj⟩, app_nd hi.hn (alk_none.mp hx), hi.en', hi.bn, hi.ei, hi.bi, hi.el, hi.nd, cs hi.op ho', ?_, cs (fun p hp => by have := hi.hle p hp; show p.2.fence ≤ f; omega) (by show h.fence ≤ f; omega), hi.ff, fun p hp => by have := hi.fle p hp; show p.1 ≤ f; omega, cs hi.fd (fun q hq => by have := hi.fle q hq; show h.fence ≠ q.1; omega), hi.fl⟩
  show ((s.holds ++ [(j, h)]).map (·.2.fence)).Nodup
  rw [List.map_append, List.nodup_append]
  refine ⟨hi.hf, by simp, fun a ha b hb => ?_⟩
  simp at hb
  obtain ⟨p, hp, rfl⟩ := List.mem_map.mp ha
  have := hi.hle p hp
  subst hb
  omega
theorem i_bar {s : St} (hi : Inv s) {j n : Str} (hj : (jobOf s.book j).isSome = true) (hx : alk j s.barred = none) {m : Int} : Inv { s with barred := s.barred ++ [(j, n)], moment := m } :=
  ⟨⟨⟨hi.bk, hi.en⟩, hi.held⟩, hi.hn, hi.en', app_nd hi.bn (alk_none.mp hx), hi.ei, fun p hp => by
    rcases List.mem_append.mp hp with z | z
    · exact hi.bi p z
    · rw [List.mem_singleton.mp z]; exact hj, hi.el, hi.nd, hi.op, hi.hf, hi.hle, hi.ff, hi.fle, hi.fd, hi.fl⟩
theorem bars_non {s : St} {j : Str} (c : isN (barsD s j) = true) : (jobOf s.book j).isSome = true ∧ outS s j = none ∧ alk j s.holds = none := by
  unfold barsD at c
  cases ej : jobOf s.book j with
  | none => rw [ej] at c; cases c
  | some job =>
    rw [ej] at c
    simp only [] at c
    split at c
    · cases c
    · rename_i c1
      split at c
      · cases c
      · rename_i c2
        exact ⟨rfl, by simpa using c1, by simpa using c2⟩
theorem need_some {s : St} {j n : Str} (c : needS s j = some n) : (jobOf s.book j).isSome = true ∧ alk j s.barred = none := by
  unfold needS at c
  cases ej : jobOf s.book j with
  | none => rw [ej] at c; cases c
  | some job =>
    rw [ej] at c
    simp only [] at c
    split at c
    · rename_i z
      refine ⟨rfl, ?_⟩
      have ho : outS s j = none := by simpa using z.2
      unfold outS at ho
      cases hb : alk j s.barred with
      | none => rfl
      | some _ => rw [hb] at ho; cases ho
    · cases c
theorem i_hear {mv : Bool} {s : St} (hi : Inv s) {l : Lt} (hl : LtOk l) (hf : s.freed.length < 1000) : Inv (hear mv s l).1 := by
  cases l with
  | take e =>
    unfold hear
    simp only []
    split
    · exact hi
    · split
      · exact hi.of rfl rfl rfl rfl rfl (Int.le_refl _)
      · exact hi
  | fin m j f a o =>
    unfold hear
    simp only []
    cases hx : alk j s.holds with
    | none => exact hi
    | some x =>
      simp only []
      split
      · exact i_fin hi hx ⟨outW_ok o, by
          cases o with
          | none => rfl
          | some v => exact hl⟩
      · exact hi
  | grant e j f m =>
    unfold hear
    simp only []
    split
    · cases hx : alk j s.holds with
      | some x =>
        simp only []
        split <;> exact hi
      | none =>
        simp only []
        split
        · rename_i c
          obtain ⟨h1, h2, h3⟩ := bars_non c.1
          exact i_grant hi h3 h1 h2 c.2 rfl
        · exact hi
    · exact hi
  | free e j f =>
    unfold hear
    simp only []
    split
    · cases hx : alk j s.holds with
      | some x =>
        simp only []
        split
        · exact i_free hi hx hf
        · split <;> exact hi
      | none =>
        simp only []
        split <;> exact hi
    · exact hi
  | bar e j n =>
    unfold hear
    simp only []
    split
    · split
      · exact hi
      · split
        · rename_i c
          obtain ⟨h1, h2⟩ := need_some c
          exact i_bar hi h1 h2
        · exact hi
    · exact hi
  | ask e =>
    unfold hear
    simp only []
    split <;> exact hi
end E64
/-! the law hears by the keeper's letters -/
namespace E64
open PySem PySem.Spec PyProof.Rows L2
section
variable {lay : Bool} {s : St} {j : Str} {Q : D → Prop}
theorem nK1 : ¬ (("free" : Str) = "grant") := by decide +kernel
theorem nK2 : ¬ (("bar" : Str) = "grant") := by decide +kernel
theorem nK3 : ¬ (("bar" : Str) = "free") := by decide +kernel
theorem nK4 : ¬ (("ask" : Str) = "grant") := by decide +kernel
theorem nK5 : ¬ (("ask" : Str) = "free") := by decide +kernel
theorem nK6 : ¬ (("ask" : Str) = "bar") := by decide +kernel
theorem isN_bars_held (hj : (jobOf s.book j).isSome = true) {x : Hold} (hx : alk j s.holds = some x) : isN (barsD s j) = false := by
  unfold barsD
  obtain ⟨job, ej⟩ := Option.isSome_iff_exists.mp hj
  rw [ej, hx]
  simp only [Option.isSome_some, if_true]
  split <;> rfl
theorem bars_job (c : isN (barsD s j) = true) : (jobOf s.book j).isSome = true := by
  unfold barsD at c
  cases ej : jobOf s.book j with
  | none => rw [ej] at c; cases c
  | some _ => rfl
theorem chG (m f : Int) (l : List (Str × Hold)) : mergeD (putD (flds lay s) "moment" (.int m)) [(("fence" : Str), .int f), (("holds" : Str), .dct (l.map fun p => (p.1, holdD p.2)))] = flds lay ⟨s.book, s.time, s.epoch, m, f, l, s.ends, s.barred, s.freed⟩ := by cases lay <;> kernel_rfl
theorem chF (m : Int) (l : List (Str × Hold)) (r : List (Int × List D)) : mergeD (putD (flds lay s) "moment" (.int m)) [(("holds" : Str), .dct (l.map fun p => (p.1, holdD p.2))), (("freed" : Str), .tup (r.map fun p => .tup (.int p.1 :: p.2)))] = flds lay ⟨s.book, s.time, s.epoch, m, s.fence, l, s.ends, s.barred, r⟩ := by cases lay <;> kernel_rfl
theorem chE (m : Int) (l : List (Str × Hold)) (r : List (Str × List End)) : mergeD (putD (flds lay s) "moment" (.int m)) [(("holds" : Str), .dct (l.map fun p => (p.1, holdD p.2))), (("ends" : Str), .dct (r.map fun p => (p.1, .tup (p.2.map endD))))] = flds lay ⟨s.book, s.time, s.epoch, m, s.fence, l, r, s.barred, s.freed⟩ := by cases lay <;> kernel_rfl
theorem chB (m : Int) (l : List (Str × Str)) : mergeD (putD (flds lay s) "moment" (.int m)) [(("barred" : Str), .dct (l.map fun p => (p.1, .str p.2)))] = flds lay ⟨s.book, s.time, s.epoch, m, s.fence, s.holds, s.ends, l, s.freed⟩ := by cases lay <;> kernel_rfl
theorem chT (m e : Int) : mergeD (putD (flds lay s) "moment" (.int m)) [(("epoch" : Str), .int e)] = flds lay ⟨s.book, s.time, e, m, s.fence, s.holds, s.ends, s.barred, s.freed⟩ := by cases lay <;> kernel_rfl
theorem eEnds : ((alk j s.ends).map fun es => D.tup (es.map endD)).getD (.tup []) = .tup ((endsOf s j).map endD) := by
  unfold endsOf; cases alk j s.ends <;> rfl
theorem k_grant (hi : Inv s) (hn : Named s) {e : Int} {f m : Int} (he : e = s.epoch)
    (q : ∀ k : D, (k = (hear true s (.grant e j f m)).2 ∧ isN k = false) ∨ (k = .non ∧ (hear true s (.grant e j f m)) = (s, noD s (.grant e j f m))) → Q (.tup [stD lay (hear true s (.grant e j f m)).1, k])) : g_l_by_keeper [stD lay s, letD (.grant e j f m)] Q := by
  unfold g_l_by_keeper c_l_by_keeper
  unfold hear at q
  simp only [] at q
  rw [if_pos he] at q
  simp [x_var, x_put, letD]
  cases hx : alk j s.holds with
  | some x =>
    rw [hx] at q
    have hj := hi.held _ (alk_mem hx)
    simp only [] at q
    simp
    by_cases c : x.fence = f ∧ x.mach = m
    · rw [if_pos c] at q
      rw [if_neg (by rw [c.1, c.2]; simp)]
      refine p_lvalues hi hj ?_
      simpa using q _ (.inl ⟨rfl, rfl⟩)
    · rw [if_neg c] at q
      have e2 : ¬x.fence = f ∨ ¬x.mach = m := Classical.or_iff_not_imp_left.mpr fun a b => c ⟨Classical.not_not.mp a, b⟩
      rw [if_pos e2]
      refine p_lhind hi hn ?_
      rw [isN_bars_held hj hx]
      exact q .non (.inr ⟨rfl, rfl⟩)
  | none =>
    rw [hx] at q
    simp only [] at q
    simp
    refine p_lhind hi hn ?_
    by_cases c : isN (barsD s j) = true
    · rw [if_pos c]
      by_cases c2 : s.fence < f
      · rw [if_neg (by omega)]
        rw [if_pos ⟨c, c2⟩] at q
        obtain ⟨hj, ho, hx'⟩ := bars_non c
        rw [eEnds]
        simp
        have kn : ((s.holds.map fun p => (p.1, holdD p.2)).map (·.1)).Nodup := by rw [List.map_map]; exact hi.hn
        have l8 := hi.hl
        refine p_lwith (kvs := s.holds.map fun p => (p.1, holdD p.2)) (w := holdD ⟨f, m, (endsOf s j).length + 1, s.moment + 1, s.time⟩) kn (by simp; omega) ?_
        have ea : (if isN (holdD ⟨f, m, (endsOf s j).length + 1, s.moment + 1, s.time⟩) = true then outF (s.holds.map fun p => (p.1, holdD p.2)) j else outF (s.holds.map fun p => (p.1, holdD p.2)) j ++ [(j, holdD ⟨f, m, (endsOf s j).length + 1, s.moment + 1, s.time⟩)]) = (s.holds ++ [(j, (⟨f, m, (endsOf s j).length + 1, s.moment + 1, s.time⟩ : Hold))]).map fun p => (p.1, holdD p.2) := by
          rw [isN_hold, if_neg Bool.false_ne_true, outF_map, outF_none hx, List.map_append]; rfl
        rw [ea]
        refine p_lchanged (by simp) ?_
        rw [chG]
        have hi' : Inv (⟨s.book, s.time, s.epoch, s.moment + 1, f, s.holds ++ [(j, ⟨f, m, (endsOf s j).length + 1, s.moment + 1, s.time⟩)], s.ends, s.barred, s.freed⟩ : St) := i_grant hi hx' hj ho c2 rfl
        exact p_lvalues (lay := lay) hi' hj (q _ (.inl ⟨rfl, rfl⟩))
      · rw [if_pos (by omega)]
        rw [if_neg (fun z => c2 z.2)] at q
        exact q .non (.inr ⟨rfl, rfl⟩)
    · rw [if_neg c]
      rw [if_neg (fun z => c z.1)] at q
      exact q .non (.inr ⟨rfl, rfl⟩)
theorem isNnon : (isN .non = true) = True := by simp [isN]
theorem srt_freedT {l : List (Int × List D)} (h : (l.map (·.1)).Nodup) (Q : D → Prop) (q : Q (.lst ((srtF l).map fun p => .tup (.int p.1 :: p.2)))) : fSorted [.tup (l.map fun p => D.tup (.int p.1 :: p.2))] Q := by
  refine .inl ⟨fun d hd => ?_, ?_, ?_⟩
  · obtain ⟨p, _, rfl⟩ := List.mem_map.mp hd; trivial
  · rw [List.map_map]; exact h
  · rw [srtB_map (lt := fun p q : Int × List D => decide (p.1 < q.1)) (lt' := lI) (f := fun p => D.tup (.int p.1 :: p.2)) (fun _ _ => rfl)]
    exact q
theorem k_free (hi : Inv s) {e : Int} {f : Int} (he : e = s.epoch)
    (q : ∀ k : D, (k = (hear true s (.free e j f)).2 ∧ isN k = false) ∨ (k = .non ∧ (hear true s (.free e j f)) = (s, noD s (.free e j f))) → Q (.tup [stD lay (hear true s (.free e j f)).1, k])) : g_l_by_keeper [stD lay s, letD (.free e j f)] Q := by
  unfold g_l_by_keeper c_l_by_keeper
  unfold hear at q
  simp only [] at q
  rw [if_pos he] at q
  simp [x_var, x_put, letD, nK1]
  have low : (f ≤ s.fence → Q (.tup [stD lay s, .tup [.str "freed", .int e, .str j, .int f]])) → (¬ f ≤ s.fence → Q (.tup [stD lay s, .non])) → if f ≤ s.fence then Q (.tup [stD lay s, .tup [.str "freed", .int e, .str j, .int f]]) else Q (.tup [stD lay s, .non]) := fun h1 h2 => by
    by_cases c : f ≤ s.fence
    · rw [if_pos c]; exact h1 c
    · rw [if_neg c]; exact h2 c
  cases hx : alk j s.holds with
  | none =>
    rw [hx] at q
    simp only [] at q
    simp
    refine low (fun c => ?_) (fun c => ?_)
    · rw [if_neg (by omega)] at q; exact q _ (.inl ⟨rfl, rfl⟩)
    · rw [if_pos (by omega)] at q; exact q _ (.inr ⟨rfl, rfl⟩)
  | some x =>
    rw [hx] at q
    simp only [] at q
    simp
    by_cases c : x.fence = f
    · rw [if_pos c] at q; rw [if_pos c]
      have l8 := hi.hl
      have el : (s.freed.map fun p => D.tup (.int p.1 :: p.2)) ++ [.tup [.int f, .str j, .int x.mach, .int x.att, .int x.mom, .int x.time, .int (s.moment + 1)]] = (s.freed ++ [goneOf s j x]).map fun p => D.tup (.int p.1 :: p.2) := by
        rw [List.map_append]; simp [goneOf, c]
      have e0 : ∀ Q : D → Prop, fSl (holdD x) (some 1) none Q ↔ Q (.tup [.int x.mach, .int x.att, .int x.mom, .int x.time]) := fun Q => sl1 (by simp) Q
      rw [e0]
      simp only [freedD, x_addT, List.cons_append, List.nil_append, List.length_cons, List.length_nil]
      refine ⟨by decide, by decide, by have := hi.fl; simp; omega, ?_⟩
      have kn : ((s.holds.map fun p => (p.1, holdD p.2)).map (·.1)).Nodup := by rw [List.map_map]; exact hi.hn
      refine p_lwith (kvs := s.holds.map fun p => (p.1, holdD p.2)) (w := .non) kn (by simp; omega) ?_
      rw [el]
      refine srt_freedT (hi.gone hx) _ ?_
      simp only [x_tupL, isNnon, if_true, outF_map]
      refine p_lchanged (by simp) ?_
      rw [chF]
      change fDGet (stD lay (St.mk s.book s.time s.epoch (s.moment + 1) s.fence (outF s.holds j) s.ends s.barred (srtF (s.freed ++ [goneOf s j x])))) _ _
      simp
      have hf := hi.hle _ (alk_mem hx)
      rw [if_pos (by simp only at hf; omega)]
      exact q _ (.inl ⟨rfl, rfl⟩)
    · rw [if_neg c] at q; rw [if_neg c]
      refine low (fun c => ?_) (fun c => ?_)
      · rw [if_neg (by omega)] at q; exact q _ (.inl ⟨rfl, rfl⟩)
      · rw [if_pos (by omega)] at q; exact q _ (.inr ⟨rfl, rfl⟩)
theorem k_bar (hi : Inv s) (hn : Named s) {e : Int} {n : Str} (he : e = s.epoch)
    (q : ∀ k : D, (k = (hear true s (.bar e j n)).2 ∧ isN k = false) ∨ (k = .non ∧ (hear true s (.bar e j n)) = (s, noD s (.bar e j n))) → Q (.tup [stD lay (hear true s (.bar e j n)).1, k])) : g_l_by_keeper [stD lay s, letD (.bar e j n)] Q := by
  unfold g_l_by_keeper c_l_by_keeper
  unfold hear at q
  simp only [] at q
  rw [if_pos he] at q
  simp [x_var, x_put, letD, nK2, nK3]
  have eo : ∀ o : Option Str, (Option.map D.str o).getD .non = optS o := fun o => by cases o <;> rfl
  rw [eo, x_neO]
  simp
  by_cases c : alk j s.barred = some n
  · rw [if_pos c] at q ⊢
    exact q _ (.inl ⟨rfl, rfl⟩)
  rw [if_neg c] at q ⊢
  refine p_ljob hi.bk ?_
  cases ej : jobOf s.book j with
  | none =>
    rw [if_neg (by unfold needS; rw [ej]; simp)] at q
    simp [optJ]
    exact q _ (.inr ⟨rfl, rfl⟩)
  | some job =>
    have hj : (jobOf s.book j).isSome = true := by rw [ej]; rfl
    simp [optJ]
    refine p_lbarring hi hn hj ?_
    rw [x_neO]
    simp
    by_cases c2 : needS s j = some n
    · rw [if_pos c2] at q ⊢
      have l8 := hi.bl
      obtain ⟨_, hx⟩ := need_some c2
      have kn : ((s.barred.map fun p => (p.1, D.str p.2)).map (·.1)).Nodup := by rw [List.map_map]; exact hi.bn
      refine p_lwith (kvs := s.barred.map fun p => (p.1, D.str p.2)) (w := .str n) kn (by simp; omega) ?_
      have ea : (if isN (D.str n) = true then outF (s.barred.map fun p => (p.1, D.str p.2)) j else outF (s.barred.map fun p => (p.1, D.str p.2)) j ++ [(j, D.str n)]) = (s.barred ++ [(j, n)]).map fun p => (p.1, D.str p.2) := by
        rw [x_isNs, if_neg Bool.false_ne_true, outF_map, outF_none hx, List.map_append]; rfl
      rw [ea]
      refine p_lchanged (by simp) ?_
      rw [chB]
      exact q _ (.inl ⟨rfl, rfl⟩)
    · rw [if_neg c2] at q ⊢
      exact q _ (.inr ⟨rfl, rfl⟩)
theorem srt_keys {α : Type} (l : List (Str × α)) : srtB lS (l.map fun p => D.str p.1) = (srtP l).map fun p => D.str p.1 :=
  srtB_map (lt := fun p q : Str × α => ltS p.1 q.1) (lt' := lS) (f := fun p => D.str p.1) (fun _ _ => rfl) l
theorem srtP_perm {α : Type} (l : List (Str × α)) : (srtP l).Perm l := srtB_perm _ l
theorem in_told {α : Type} (f : α → D) {l : List (Str × α)} {fld : Str} {sl : List (Option D)} {Qa : List D → Prop} (kn : (l.map (·.1)).Nodup) (hl : l.length ≤ 8) (hg : ∀ Q : D → Prop, fDGet (stD lay s) (.str fld) Q ↔ Q (.dct (l.map fun p => (p.1, f p.2)))) (hs : sl.length = 10) (h0 : sl[0]? = some (some (stD lay s))) (h8 : sl[8]? = some (some (.str fld)))
    (q : Qa ((srtP l).map fun p => .tup [.str p.1, f p.2])) : fList [.dct (l.map fun p => (p.1, f p.2))] fun d => fSorted [d] fun d => match d with
      | .lst ds => compW (gN 9) bYes (cTup (aCons (cVar 9) (aCons (cDGet (cDGet (cVar 0) (cVar 8)) (cVar 9)) aNil))) ⟨sl, none⟩ ds [] Qa
      | _ => False := by
  rw [x_listD, List.map_map]
  refine .inr ⟨fun d hd => ?_, by simp; omega, ?_⟩
  · obtain ⟨p, _, rfl⟩ := List.mem_map.mp hd; trivial
  · have e : ((fun p : Str × D => D.str p.1) ∘ fun p : Str × α => (p.1, f p.2)) = fun p => D.str p.1 := rfl
    rw [e, srt_keys]
    show compW _ _ _ _ _ _ _
    rw [comp_fm (fun p : Str × α => D.str p.1) (fun p => some (.tup [.str p.1, f p.2])) _ _ _ (fun p hp P => ?_) (by rw [(srtP_perm l).length_eq]; simp; omega), fm_some, List.nil_append]
    · exact q
    · have hp' := (srtP_perm l).mem_iff.mp hp
      have e0 : (sl.set 9 (some (D.str p.1)))[0]? = some (some (stD lay s)) := by rw [List.getElem?_set_ne (by decide)]; exact h0
      have e8 : (sl.set 9 (some (D.str p.1)))[8]? = some (some (.str fld)) := by rw [List.getElem?_set_ne (by decide)]; exact h8
      have e9 : (sl.set 9 (some (D.str p.1)))[9]? = some (some (.str p.1)) := by simp [hs]
      simp only [x_gN, x_put, x_yes, if_true, x_tup, x_acons, x_anil, x_dget, x_var, e0, e8, e9, x_exo2, hg, x_dgetS, lk_map f, (alk_some kn).mpr hp']
      simp
theorem k_ask (hi : Inv s) {e : Int} (he : e = s.epoch) (q : Q (.tup [stD lay s, toldD s])) : g_l_by_keeper [stD lay s, letD (.ask e)] Q := by
  unfold g_l_by_keeper c_l_by_keeper
  simp [x_var, x_put, letD, nK4, nK5, nK6, x_wipe1]
  refine in_told holdD hi.hn hi.hl (fun Q => g_holds) rfl rfl rfl ?_
  try simp
  refine in_told (fun es : List End => D.tup (es.map endD)) hi.en' hi.el8 (fun Q => g_ends) rfl rfl rfl ?_
  try simp
  refine in_told D.str hi.bn hi.bl (fun Q => g_barred) rfl rfl rfl ?_
  try simp
  rw [he]
  exact q
end
end E64
/-! the law hears -/
namespace E64
open PySem PySem.Spec PyProof.Rows L2
theorem isNnon' : isN .non = true := rfl
theorem isN_noD (s : St) (l : Lt) : isN (noD s l) = false := rfl
section
variable {lay : Bool} {s : St} {j : Str} {Q : D → Prop}
/-- by the keeper, and then the answer -/
theorem h_keep {l : Lt} {e : Int} (h1 : ∀ Q : D → Prop, fIx (letD l) (.int 1) Q ↔ Q (.int e)) (n1 : ¬ wordOf l = "take") (n2 : ¬ wordOf l = "end")
    (hk : e = s.epoch → ∀ Q : D → Prop, (∀ k : D, (k = (hear true s l).2 ∧ isN k = false) ∨ (k = .non ∧ (hear true s l) = (s, noD s l)) → Q (.tup [stD lay (hear true s l).1, k])) → g_l_by_keeper [stD lay s, letD l] Q) (ho : e ≠ s.epoch → hear true s l = (s, noD s l))
    (q : Q (.tup [stD lay (hear true s l).1, (hear true s l).2])) : g_l_heard [stD lay s, letD l] Q := by
  unfold g_l_heard c_l_heard
  simp [x_var, x_put, let_0, n1, n2, h1]
  by_cases c : e = s.epoch
  · rw [if_pos c]
    refine hk c _ fun k hk => ?_
    rcases hk with ⟨e1, e2⟩ | ⟨e1, e2⟩
    · simp [x_put, x_var]
      rw [if_neg (by rw [e2]; exact Bool.false_ne_true), e1]
      exact q
    · subst e1
      simp [x_put, x_var]
      rw [e2] at q ⊢
      exact q
  · rw [if_neg c]
    rw [ho c] at q
    exact q
theorem p_lheard (hi : Inv s) (hn : Named s) {l : Lt} (q : Q (.tup [stD lay (hear true s l).1, (hear true s l).2])) : g_l_heard [stD lay s, letD l] Q := by
  cases l with
  | grant e j f m => exact h_keep (l := .grant e j f m) (fun Q => by simp [letD]) (by show ¬ ("grant" : Str) = "take"; decide +kernel) (by show ¬ ("grant" : Str) = "end"; decide +kernel) (fun he Q q => k_grant hi hn he q) (fun h => by unfold hear; simp only []; rw [if_neg h]) q
  | free e j f => exact h_keep (l := .free e j f) (fun Q => by simp [letD]) (by show ¬ ("free" : Str) = "take"; decide +kernel) (by show ¬ ("free" : Str) = "end"; decide +kernel) (fun he Q q => k_free hi he q) (fun h => by unfold hear; simp only []; rw [if_neg h]) q
  | bar e j n => exact h_keep (l := .bar e j n) (fun Q => by simp [letD]) (by show ¬ ("bar" : Str) = "take"; decide +kernel) (by show ¬ ("bar" : Str) = "end"; decide +kernel) (fun he Q q => k_bar hi hn he q) (fun h => by unfold hear; simp only []; rw [if_neg h]) q
  | ask e => exact h_keep (l := .ask e) (fun Q => by simp [letD]) (by show ¬ ("ask" : Str) = "take"; decide +kernel) (by show ¬ ("ask" : Str) = "end"; decide +kernel) (fun he Q q => k_ask hi he (by
      have h2 : hear true s (.ask e) = (s, toldD s) := by unfold hear; simp only []; rw [if_pos he]
      have := q _ (.inl ⟨rfl, by rw [h2]; rfl⟩)
      rw [h2] at this
      exact this)) (fun h => by unfold hear; simp only []; rw [if_neg h]) q
  | take e =>
    unfold g_l_heard c_l_heard
    unfold hear at q
    simp only [] at q
    simp [x_var, x_put, letD]
    by_cases c : s.epoch < e
    · rw [if_neg (by omega), if_pos c] at q
      rw [if_pos c]
      refine p_lchanged (by simp) ?_
      rw [chT]
      change fDGet (stD lay (St.mk s.book s.time e (s.moment + 1) s.fence s.holds s.ends s.barred s.freed)) _ _
      simp
      exact q
    · rw [if_neg c]
      by_cases c2 : e < s.epoch
      · rw [if_pos c2] at q
        rw [if_neg (by omega)]
        exact q
      · rw [if_neg c2, if_neg c] at q
        rw [if_pos (by omega)]
        exact q
  | fin m j f a o =>
    have n1 : ¬ ("end" : Str) = "take" := by decide +kernel
    unfold g_l_heard c_l_heard
    unfold hear at q
    simp only [] at q
    have l3 := hi.lenE (j := j)
    simp [x_var, x_put, letD, n1, eEnds, x_wipe1]
    have tail : Q (.tup [stD lay s, .tup [.str (if ((endsOf s j).any fun e => decide (e.fence = f)) = true then "ended" else "refused"), .int m, .str j, .int f]]) → ∀ (sl : List (Option D)), sl.length = 14 → compW (gN 12) bYes (cOp fIx (cVar 12) (cC (.int 1))) ⟨sl, none⟩ ((endsOf s j).map endD) [] fun acc => fIn (.int f) (.lst acc) fun d => isB d fun x => if x = true then Q (.tup [stD lay s, .tup [.str "ended", .int m, .str j, .int f]]) else Q (.tup [stD lay s, .tup [.str "refused", .int m, .str j, .int f]]) := by
      intro q sl hl
      rw [comp_fm endD (fun e => some (.int e.fence)) _ _ _ (fun e _ P => by
        have e12 : (sl.set 12 (some (endD e)))[12]? = some (some (endD e)) := by simp [hl]
        simp only [x_gN, x_put, x_yes, if_true, x_op, x_var, x_c, e12, x_exo2]
        simp) (by simp; omega), fm_some, List.nil_append, x_inF]
      simp
      split
      · rename_i c; rw [if_pos (by simpa using c)] at q; exact q
      · rename_i c; rw [if_neg (by simpa using c)] at q; exact q
    cases hx : alk j s.holds with
    | none =>
      rw [hx] at q
      simp only [] at q
      simp
      exact tail q _ rfl
    | some x =>
      rw [hx] at q
      simp only [] at q
      simp
      by_cases c : x.fence = f ∧ x.mach = m ∧ x.att = a
      · rw [if_pos c] at q; rw [if_pos c]
        rw [outO]
        simp [outO]
        have l8 := hi.hl
        have l9 := hi.el8
        have fin : ∀ v, v = o.getD .non → g_l_with [holdsD s.holds, .str j, .non] fun d_5 => (endsOf s j).length ≤ 99999 ∧ g_l_with [endsD s.ends, .str j, .tup ((endsOf s j).map endD ++ [.tup [.str (outW o), .int f, .int x.mom, .int x.time, .int (s.moment + 1), v]])] fun d =>
            g_l_changed [stD lay s, .dct [(("holds" : Str), d_5), (("ends" : Str), d)]] fun d => Q (.tup [d, .tup [.str "ended", .int m, .str j, .int f]]) := by
          intro v ev
          subst ev
          have kn : ((s.holds.map fun p => (p.1, holdD p.2)).map (·.1)).Nodup := by rw [List.map_map]; exact hi.hn
          have ke : ((s.ends.map fun p => (p.1, D.tup (p.2.map endD))).map (·.1)).Nodup := by rw [List.map_map]; exact hi.en'
          refine p_lwith (kvs := s.holds.map fun p => (p.1, holdD p.2)) (w := .non) kn (by simp; omega) ?_
          refine ⟨by omega, ?_⟩
          have el : ((endsOf s j).map endD ++ [D.tup [.str (outW o), .int f, .int x.mom, .int x.time, .int (s.moment + 1), o.getD .non]]) = ((endsOf s j ++ [(⟨outW o, f, x.mom, x.time, s.moment + 1, o.getD .non⟩ : End)]).map endD) := by
            rw [List.map_append]; rfl
          rw [el]
          refine p_lwith (kvs := s.ends.map fun p => (p.1, D.tup (p.2.map endD))) ke (by simp; omega) ?_
          rw [isNnon', if_pos rfl, x_isNt, if_neg Bool.false_ne_true, outF_map, outF_map (fun es : List End => D.tup (es.map endD))]
          have ea : (outF s.ends j).map (fun p => (p.1, D.tup (p.2.map endD))) ++ [(j, D.tup ((endsOf s j ++ [(⟨outW o, f, x.mom, x.time, s.moment + 1, o.getD .non⟩ : End)]).map endD))] = (setE true s.ends j (endsOf s j ++ [⟨outW o, f, x.mom, x.time, s.moment + 1, o.getD .non⟩])).map fun p => (p.1, D.tup (p.2.map endD)) := by
            exact (List.map_append (l₁ := outF s.ends j) (l₂ := [(j, endsOf s j ++ [(⟨outW o, f, x.mom, x.time, s.moment + 1, o.getD .non⟩ : End)])])).symm
          rw [ea]
          refine p_lchanged (by simp) ?_
          rw [chE]
          exact q
        cases o with
        | none =>
          have nd : ¬ (outW none = "done") := by show ¬ (("failed" : Str) = "done"); decide +kernel
          rw [if_neg nd]
          exact fin .non rfl
        | some v =>
          rw [if_pos (show outW (some v) = "done" from rfl)]
          simp [outcD]
          exact fin v rfl
      · rw [if_neg c] at q; rw [if_neg c]
        exact tail q _ rfl
end
end E64
/-! the law's own beside the store -/
namespace E64
open PySem PySem.Spec PyProof.Rows L2
structure Rel (o s : St) : Prop where
  bk : o.book = s.book
  ti : o.time = s.time
  ep : o.epoch = s.epoch
  mo : o.moment = s.moment
  fe : o.fence = s.fence
  hp : o.holds.Perm s.holds
  en : o.ends.Perm s.ends
  ba : o.barred.Perm s.barred
section
variable {o s : St} {j : Str}
theorem Rel.holds (r : Rel o s) (hi : Inv o) (j : Str) : alk j o.holds = alk j s.holds := alk_perm r.hp hi.hn
theorem Rel.ends (r : Rel o s) (hi : Inv o) (j : Str) : alk j o.ends = alk j s.ends := alk_perm r.en hi.en'
theorem Rel.barred (r : Rel o s) (hi : Inv o) (j : Str) : alk j o.barred = alk j s.barred := alk_perm r.ba hi.bn
theorem Rel.endsOf (r : Rel o s) (hi : Inv o) (j : Str) : endsOf o j = endsOf s j := by unfold E64.endsOf; rw [r.ends hi]
theorem Rel.outS (r : Rel o s) (hi : Inv o) (j : Str) : outS o j = outS s j := by
  unfold E64.outS triesOf
  rw [r.barred hi, r.endsOf hi, r.bk]
theorem Rel.resD (r : Rel o s) (hi : Inv o) (j : Str) : resD o j = resD s j := by
  unfold E64.resD needsOf
  rw [r.bk]
  refine congrArg D.tup (List.map_congr_left fun n _ => ?_)
  rw [r.outS hi]
theorem Rel.hindL (r : Rel o s) (hi : Inv o) (job : Job) : hindL o job = hindL s job := by
  rw [hindL_is, hindL_is]
  refine List.filter_congr fun n _ => ?_
  unfold hinders
  rw [r.outS hi]
def subV (k : Str) (z : Int) (u : Str × Int) : Int := if u.1 = k then z - u.2 else z
theorem subV_comm (k : Str) (z : Int) (u v : Str × Int) : subV k (subV k z u) v = subV k (subV k z v) u := by
  unfold subV
  split <;> split <;> omega
theorem alk_subs (k : Str) : ∀ {us l : List (Str × Int)} {v : Int}, (∀ u ∈ us, u.1 ∈ l.map (·.1)) → alk k l = some v → alk k (us.foldl subU l) = some (us.foldl (subV k) v)
  | [], _, _, _, h => h
  | u :: us, l, v, hu, h => by
    have e := subU_keys (hu u List.mem_cons_self)
    rw [List.foldl_cons, List.foldl_cons]
    refine alk_subs k (fun x hx => by rw [e]; exact hu x (List.mem_cons_of_mem _ hx)) ?_
    unfold subU subV
    rw [alk_apt]
    by_cases c : k = u.1
    · rw [if_pos c, if_pos c.symm, ← c, h]; rfl
    · rw [if_neg c, if_neg (fun z => c z.symm), h]
theorem alk_free' {b : Book} (hb : BookOk b) (k : Str) : ∀ {hs : List (Str × Hold)} {l : List (Str × Int)} {v : Int}, l.map (·.1) = b.things.map (·.1) → alk k l = some v → alk k (hs.foldl (fun l h => (usesOf b h.1).foldl subU l) l) = some (hs.foldl (fun z h => (usesOf b h.1).foldl (subV k) z) v)
  | [], _, _, _, h => h
  | h :: hs, l, v, e, hk => by
    rw [List.foldl_cons, List.foldl_cons]
    have hu : ∀ u ∈ usesOf b h.1, u.1 ∈ l.map (·.1) := fun u hu => by rw [e]; exact usesOf_ok hb u hu
    exact alk_free' hb k (by rw [subs_keys hu, e]) (alk_subs k hu hk)
theorem Rel.freeOf (r : Rel o s) (hi : Inv o) : freeOf o = freeOf s := by
  have hbo := hi.bk
  have hbs : BookOk s.book := r.bk ▸ hi.bk
  have k1 := free_keys (s := o) hbo
  have k2 := free_keys (s := s) hbs
  have nd : ((E64.freeOf o).map (·.1)).Nodup := by rw [k1]; exact hbo.tnod
  have nd2 : ((E64.freeOf s).map (·.1)).Nodup := by rw [k2]; exact hbs.tnod
  have key : ∀ k, alk k (E64.freeOf o) = alk k (E64.freeOf s) := fun k => by
    cases e : alk k s.book.things with
    | none =>
      have : k ∉ s.book.things.map (·.1) := alk_none.mp e
      rw [alk_none.mpr (by rw [k1, r.bk]; exact this), alk_none.mpr (by rw [k2]; exact this)]
    | some v =>
      have a1 := alk_free' hbo k (hs := o.holds) rfl (by rw [r.bk]; exact e)
      have a2 := alk_free' hbs k (hs := s.holds) rfl e
      show alk k (o.holds.foldl _ _) = alk k (s.holds.foldl _ _)
      rw [a1, a2, r.bk]
      refine congrArg some (r.hp.foldl_eq' (fun x _ y _ z => ?_) v)
      rw [← List.foldl_append, ← List.foldl_append]
      exact List.Perm.foldl_eq' List.perm_append_comm (fun x _ y _ z => subV_comm k z x y) z
  have e1 := look_all nd rfl
  have e2 := look_all nd2 (show (E64.freeOf o).map (·.1) = (E64.freeOf s).map (·.1) by rw [k1, k2, r.bk])
  rw [← e1, ← e2]
  refine List.map_congr_left fun p _ => ?_
  rw [key]
theorem Rel.barsD (r : Rel o s) (hi : Inv o) (j : Str) : barsD o j = barsD s j := by
  unfold E64.barsD
  rw [r.bk, r.outS hi, r.holds hi, r.ti, r.freeOf hi]
  cases jobOf s.book j with
  | none => rfl
  | some job => simp only [r.hindL hi]
theorem Rel.needS (r : Rel o s) (hi : Inv o) (j : Str) : needS o j = needS s j := by
  unfold E64.needS
  rw [r.bk, r.outS hi]
  cases jobOf s.book j with
  | none => rfl
  | some job => simp only [r.hindL hi, r.outS hi]
theorem swoP {α : Type} : SrtO.Swo (fun p q : Str × α => ltS p.1 q.1) := ⟨fun x y h => swoS.asym _ _ h, fun x y z h1 h2 => swoS.tr _ _ _ h1 h2⟩
theorem srtP_congr {α : Type} {l m : List (Str × α)} (p : l.Perm m) (h : (l.map (·.1)).Nodup) : srtP l = srtP m :=
  srtB_congr swoP (fun x hx y hy h1 h2 => nd_inj h hx hy (ltS_anti h1 h2)) p
theorem Rel.toldD (r : Rel o s) (hi : Inv o) : toldD o = toldD s := by
  unfold E64.toldD
  rw [r.ep, r.mo, r.ti, r.fe, srtP_congr r.hp hi.hn, srtP_congr r.en hi.en', srtP_congr r.ba hi.bn]
theorem Rel.noD (r : Rel o s) (l : Lt) : noD o l = noD s l := by unfold E64.noD; rw [r.ep]
theorem outF_perm {α : Type} {l m : List (Str × α)} (p : l.Perm m) (k : Str) : (outF l k).Perm (outF m k) := p.filter _
theorem apt_perm {α : Type} {l : List (Str × α)} {k : Str} {v : α} (h : (l.map (·.1)).Nodup) : (outF l k ++ [(k, v)]).Perm (apt l k v) := by
  induction l with
  | nil => exact List.Perm.refl _
  | cons p l ih =>
    obtain ⟨a, b⟩ := p
    simp only [List.map_cons, List.nodup_cons] at h
    by_cases c : a = k
    · subst c
      have hk : a ∉ l.map (·.1) := h.1
      have e1 : outF ((a, b) :: l) a = l := by
        unfold outF
        rw [List.filter_cons_of_neg (by simp)]
        exact outF_none (alk_none.mpr hk)
      have e2 : apt ((a, b) :: l) a v = (a, v) :: l := by
        rw [apt_old (by simp), List.map_cons, if_pos rfl]
        congr 1
        have := List.map_congr_left (f := fun p : Str × α => if p.1 = a then (p.1, v) else p) (g := fun p => p) (l := l) (fun p hp => if_neg fun z => hk (List.mem_map.mpr ⟨p, hp, z⟩))
        rw [this, List.map_id']
      rw [e1, e2]
      exact List.perm_append_singleton _ _
    · have e1 : outF ((a, b) :: l) k = (a, b) :: outF l k := by
        unfold outF
        rw [List.filter_cons_of_pos (by simp [c])]
      have e2 : apt ((a, b) :: l) k v = (a, b) :: apt l k v := by
        unfold apt
        rw [List.any_cons]
        simp only [c, decide_false, Bool.false_or]
        split
        · rw [List.map_cons, if_neg c]
        · rfl
      rw [e1, e2, List.cons_append]
      exact (ih h.2).cons _
theorem setE_perm {l m : List (Str × List End)} (p : l.Perm m) (h : (l.map (·.1)).Nodup) (j : Str) (es : List End) : (setE true l j es).Perm (setE false m j es) := by
  have h2 : (m.map (·.1)).Nodup := (p.map _).nodup_iff.mp h
  show (outF l j ++ [(j, es)]).Perm (apt m j es)
  exact ((outF_perm p j).append_right _).trans (apt_perm h2)
theorem Rel.hear (r : Rel o s) (hi : Inv o) (l : Lt) : Rel (hear true o l).1 (hear false s l).1 ∧ (hear true o l).2 = (hear false s l).2 := by
  cases l with
  | take e =>
    unfold E64.hear
    simp only [r.ep, r.noD]
    split
    · exact ⟨r, rfl⟩
    · split
      · exact ⟨⟨r.bk, r.ti, rfl, by rw [r.mo], r.fe, r.hp, r.en, r.ba⟩, rfl⟩
      · exact ⟨r, rfl⟩
  | fin m j f a v =>
    unfold E64.hear
    simp only [r.holds hi, r.endsOf hi]
    cases alk j s.holds with
    | none => exact ⟨r, rfl⟩
    | some x =>
      simp only []
      split
      · refine ⟨⟨r.bk, r.ti, r.ep, by rw [r.mo], r.fe, outF_perm r.hp j, ?_, r.ba⟩, rfl⟩
        rw [r.mo]
        exact setE_perm r.en hi.en' _ _
      · exact ⟨r, rfl⟩
  | grant e j f m =>
    unfold E64.hear
    simp only [r.ep, r.noD, r.holds hi, r.resD hi, r.barsD hi, r.fe, r.endsOf hi]
    split
    · cases alk j s.holds with
      | some x =>
        simp only []
        split <;> exact ⟨r, rfl⟩
      | none =>
        simp only []
        split
        · refine ⟨⟨r.bk, r.ti, rfl, by rw [r.mo], rfl, ?_, r.en, r.ba⟩, rfl⟩
          rw [r.mo, r.ti]
          exact r.hp.append_right _
        · exact ⟨r, rfl⟩
    · exact ⟨r, rfl⟩
  | free e j f =>
    unfold E64.hear
    simp only [r.ep, r.noD, r.holds hi, r.fe]
    split
    · cases alk j s.holds with
      | some x =>
        simp only []
        split
        · exact ⟨⟨r.bk, r.ti, rfl, by rw [r.mo], rfl, outF_perm r.hp j, r.en, r.ba⟩, rfl⟩
        · split <;> exact ⟨r, rfl⟩
      | none =>
        simp only []
        split <;> exact ⟨r, rfl⟩
    · exact ⟨r, rfl⟩
  | bar e j n =>
    unfold E64.hear
    simp only [r.ep, r.noD, r.barred hi, r.needS hi]
    split
    · split
      · exact ⟨r, rfl⟩
      · split
        · exact ⟨⟨r.bk, r.ti, rfl, by rw [r.mo], r.fe, r.hp, r.en, r.ba.append_right _⟩, rfl⟩
        · exact ⟨r, rfl⟩
    · exact ⟨r, rfl⟩
  | ask e =>
    unfold E64.hear
    simp only [r.ep, r.noD, r.toldD hi]
    split <;> exact ⟨r, rfl⟩
end
/-- the store as told -/
def ofTold (s : St) : St := ⟨s.book, s.time, s.epoch, s.moment, s.fence, srtP s.holds, srtP s.ends, srtP s.barred, []⟩
theorem i_told {s : St} (hi : Inv s) : Inv (ofTold s) := by
  have ph := srtP_perm s.holds
  have pe := srtP_perm s.ends
  have pb := srtP_perm s.barred
  have kn : ((ofTold s).ends.map (·.1)).Nodup := (pe.map _).nodup_iff.mpr hi.en'
  have ee : ∀ j, endsOf (ofTold s) j = endsOf s j := fun j => by
    show (alk j (srtP s.ends)).getD [] = (alk j s.ends).getD []
    rw [alk_perm pe kn]
  exact ⟨⟨⟨hi.bk, fun p hp => hi.en p (pe.mem_iff.mp hp)⟩, fun p hp => hi.held p (ph.mem_iff.mp hp)⟩, (ph.map _).nodup_iff.mpr hi.hn, kn, (pb.map _).nodup_iff.mpr hi.bn, fun p hp => hi.ei p (pe.mem_iff.mp hp), fun p hp => hi.bi p (pb.mem_iff.mp hp), fun p hp => hi.el p (pe.mem_iff.mp hp), fun p hp => hi.nd p (pe.mem_iff.mp hp), fun p hp => by rw [ee]; exact hi.op p (ph.mem_iff.mp hp), (ph.map _).nodup_iff.mpr hi.hf, fun p hp => hi.hle p (ph.mem_iff.mp hp), by simp [ofTold], fun p hp => (by cases hp), fun p hp q hq => (by cases hq), by simp [ofTold]⟩
theorem r_told (s : St) : Rel (ofTold s) s := ⟨rfl, rfl, rfl, rfl, rfl, srtP_perm _, srtP_perm _, srtP_perm _⟩
theorem dict_told {α : Type} (f : α → D) {l : List (Str × α)} (h : (l.map (·.1)).Nodup) (Q : D → Prop) (q : Q (.dct (l.map fun p => (p.1, f p.2)))) : fDict [.tup (l.map fun p => D.tup [.str p.1, f p.2])] Q := by
  refine ⟨l.map fun p => (p.1, f p.2), by unfold itemsD; rw [List.map_map]; rfl, ?_⟩
  rw [mergeD_nil (by rw [List.map_map]; exact h)]
  exact q
theorem toldF (b : Book) (t e m f : Int) (d1 d2 d3 : D) : mergeD [(("book" : Str), bookD b), ("time", .int t), ("epoch", .int e), ("moment", .int m), ("fence", .int f), ("freed", .tup [])] [(("holds" : Str), d1), ("ends", d2), ("barred", d3)] = [(("book" : Str), bookD b), ("time", .int t), ("epoch", .int e), ("moment", .int m), ("fence", .int f), ("freed", .tup []), ("holds", d1), ("ends", d2), ("barred", d3)] := by kernel_rfl
theorem p_oftold {s : St} (hi : Inv s) {Q : D → Prop} (q : Q (stD true (ofTold s))) : g_l_of_told [bookD s.book, toldD s] Q := by
  have it := i_told hi
  unfold g_l_of_told c_l_of_told
  simp [x_var, x_put, toldD, sOwn, Env.own, sUpd]
  refine dict_told holdD it.hn _ ?_
  refine dict_told (fun es : List End => D.tup (es.map endD)) it.en' _ ?_
  refine dict_told D.str it.bn _ ?_
  exact ⟨_, rfl, cast (congrArg (fun x => Q (.dct x)) (toldF s.book s.time s.epoch s.moment s.fence (holdsD (srtP s.holds)) (endsD (srtP s.ends)) (barredD (srtP s.barred))).symm) q⟩
end E64
/-! sizes of what is shown -/
namespace E64
open PySem PySem.Spec PyProof.Rows L2
def WORDS : List Str := ["a", "b", "ca", "d", "eb", "f", "g", "hab", "zz", "x", "y", "job", "ended", "held", "early", "need", "units", "told", "no", "taken", "take", "end", "grant", "free", "bar", "ask", "failed", "done", "granted", "freed", "barred", "refused"]
theorem words_len : ∀ x ∈ WORDS, (reprText x).length ≤ 12 := by decide +kernel
theorem words_ok : ∀ x ∈ WORDS, PyData.strOk x = true := by decide +kernel
structure Sz (n k : Nat) (d : D) : Prop where
  lay : PyData.canLay0 (toPy d) = true
  shw : PyData.showable (toPy d) = true
  dep : (toPy d).depth ≤ k
  len : (toPy d).shown.length ≤ n
theorem Sz.mono {n k n' k' : Nat} {d : D} (h : Sz n k d) (h1 : n ≤ n') (h2 : k ≤ k') : Sz n' k' d := ⟨h.lay, h.shw, Nat.le_trans h.dep h2, Nat.le_trans h.len h1⟩
theorem sz_non : Sz 12 0 .non := ⟨by simp [toPy, PyData.canLay0], by simp [toPy, PyData.showable], by simp [toPy, PyData.depth], by rw [toPy, PyData.shown]; decide +kernel⟩
theorem sz_str {x : Str} (h : x ∈ WORDS) : Sz 12 0 (.str x) := ⟨by rw [toPy]; simp only [PyData.canLay0]; exact words_ok x h, by simp [toPy, PyData.showable], by simp [toPy, PyData.depth], by rw [toPy, PyData.shown]; exact words_len x h⟩
theorem sz_int {i : Int} (h : i.natAbs < 10 ^ 6) : Sz 12 0 (.int i) := ⟨by simp [toPy, PyData.canLay0], by
  rw [toPy]; simp only [PyData.showable, decide_eq_true_eq]
  by_cases h0 : i.natAbs = 0
  · rw [h0]; decide
  · exact Nat.lt_of_lt_of_le ((Nat.log2_lt h0).mpr (Nat.lt_of_lt_of_le h (by decide : 10 ^ 6 ≤ 2 ^ 20))) (by decide), by simp [toPy, PyData.depth], by
  rw [toPy, PyData.shown]
  have := int_text_length_le10 (k := 6) (by decide) h
  show (Str.ofString (toString i)).length ≤ 12
  rw [PySem.ofString_length]
  omega⟩
theorem piled_le {n : Nat} : ∀ {ts : List Str}, (∀ t ∈ ts, t.length ≤ n) → piled ts ≤ ts.length * (n + 2)
  | [], _ => Nat.zero_le _
  | t :: ts, h => by
    have a := h t List.mem_cons_self
    have b := piled_le (ts := ts) fun x hx => h x (List.mem_cons_of_mem _ hx)
    rw [piled_cons, List.length_cons, Nat.succ_mul]
    omega
theorem tupT_le (ts : List Str) : (tupleText ts).length ≤ piled ts + 3 := by
  unfold tupleText
  rw [strLen_append, strLen_append]
  have e1 : ((("(" : String) : Str)).length = 1 := rfl
  have e3 : (((if ts.length == 1 then ",)" else ")" : String) : Str)).length ≤ 2 := by split <;> decide
  by_cases h : ts = []
  · subst h; show _ ≤ 0 + 3; decide +kernel
  · have := join_length_add ts h
    omega
theorem lstT_le (ts : List Str) : (listText ts).length ≤ piled ts + 3 := by
  unfold listText
  rw [strLen_append]
  cases ts with
  | nil => show _ ≤ 0 + 3; decide +kernel
  | cons t r =>
    show (textFrom 1 (("[" : Str) ++ (if (0 : Nat) > 0 then ", " else "" : String) ++ t) r).length + _ ≤ _
    rw [textFrom_length_pos r 1 _ (Nat.succ_pos 0), strLen_append, strLen_append, piled_cons]
    have e1 : ((("[" : String) : Str)).length = 1 := rfl
    have e2 : ((("]" : String) : Str)).length = 1 := rfl
    have e3 : (((if (0 : Nat) > 0 then ", " else "" : String) : Str)).length = 0 := rfl
    omega
theorem all_lay : ∀ {ds : List D}, (∀ d ∈ ds, PyData.canLay0 (toPy d) = true) → PyData.canLayAll0 (toPyL ds) = true
  | [], _ => by simp [toPyL, PyData.canLayAll0]
  | d :: ds, h => by
    rw [toPyL]
    simp only [PyData.canLayAll0, h d List.mem_cons_self, all_lay fun x hx => h x (List.mem_cons_of_mem _ hx), Bool.and_self]
theorem all_shw : ∀ {ds : List D}, (∀ d ∈ ds, PyData.showable (toPy d) = true) → PyData.showableAll (toPyL ds) = true
  | [], _ => by simp [toPyL, PyData.showableAll]
  | d :: ds, h => by
    rw [toPyL]
    simp only [PyData.showableAll, h d List.mem_cons_self, all_shw fun x hx => h x (List.mem_cons_of_mem _ hx), Bool.and_self]
theorem all_dep {k : Nat} : ∀ {ds : List D}, (∀ d ∈ ds, (toPy d).depth ≤ k) → PyData.depthAll (toPyL ds) ≤ k
  | [], _ => by simp [toPyL, PyData.depthAll]
  | d :: ds, h => by
    rw [toPyL]
    simp only [PyData.depthAll]
    have a := h d List.mem_cons_self
    have b := all_dep (k := k) fun x hx => h x (List.mem_cons_of_mem _ hx)
    omega
theorem all_len {n : Nat} : ∀ {ds : List D}, (∀ d ∈ ds, (toPy d).shown.length ≤ n) → (PyData.shownAll (toPyL ds)).length = ds.length ∧ ∀ t ∈ PyData.shownAll (toPyL ds), t.length ≤ n
  | [], _ => by simp [toPyL, PyData.shownAll]
  | d :: ds, h => by
    obtain ⟨a, b⟩ := all_len (n := n) (ds := ds) fun x hx => h x (List.mem_cons_of_mem _ hx)
    rw [toPyL, PyData.shownAll]
    refine ⟨by rw [List.length_cons, List.length_cons, a], fun t ht => ?_⟩
    rcases List.mem_cons.mp ht with rfl | ht
    · exact h d List.mem_cons_self
    · exact b t ht
theorem sz_tup {n k m : Nat} {ds : List D} (h : ∀ d ∈ ds, Sz n k d) (hm : ds.length ≤ m) : Sz (m * (n + 2) + 3) (k + 1) (.tup ds) := by
  obtain ⟨a, b⟩ := all_len fun d hd => (h d hd).len
  refine ⟨?_, ?_, ?_, ?_⟩
  · rw [toPy]; simp only [PyData.canLay0]; exact all_lay fun d hd => (h d hd).lay
  · rw [toPy]; simp only [PyData.showable]; exact all_shw fun d hd => (h d hd).shw
  · rw [toPy]; simp only [PyData.depth]; have := all_dep fun d hd => (h d hd).dep; omega
  · rw [toPy, PyData.shown]
    have c := tupT_le (PyData.shownAll (toPyL ds))
    have e := piled_le b
    rw [a] at e
    have : ds.length * (n + 2) ≤ m * (n + 2) := Nat.mul_le_mul_right _ hm
    omega
theorem sz_lst {n k m : Nat} {ds : List D} (h : ∀ d ∈ ds, Sz n k d) (hm : ds.length ≤ m) : Sz (m * (n + 2) + 3) (k + 1) (.lst ds) := by
  obtain ⟨a, b⟩ := all_len fun d hd => (h d hd).len
  refine ⟨?_, ?_, ?_, ?_⟩
  · rw [toPy]; simp only [PyData.canLay0]; exact all_lay fun d hd => (h d hd).lay
  · rw [toPy]; simp only [PyData.showable]; exact all_shw fun d hd => (h d hd).shw
  · rw [toPy]; simp only [PyData.depth]; have := all_dep fun d hd => (h d hd).dep; omega
  · rw [toPy, PyData.shown]
    have c := lstT_le (PyData.shownAll (toPyL ds))
    have e := piled_le b
    rw [a] at e
    have : ds.length * (n + 2) ≤ m * (n + 2) := Nat.mul_le_mul_right _ hm
    omega
theorem x_repr {n k : Nat} {d : D} (h : Sz n k d) (hn : n ≤ 16000000) (hk : k ≤ 64) (Q : D → Prop) : fRepr [d] Q ↔ Q (.str (toPy d).shown) :=
  ⟨fun z => z.2, fun z => ⟨⟨h.lay, h.shw, Nat.le_trans h.dep hk, Nat.le_trans h.len hn⟩, z⟩⟩
end E64
/-! small stores -/
namespace E64
open PySem PySem.Spec PyProof.Rows L2
structure SmallB (b : Book) : Prop where
  nm : ∀ j ∈ b.jobs, j.name ∈ WORDS
  nd : ∀ j ∈ b.jobs, ∀ n ∈ j.needs, n ∈ WORDS
  us : ∀ j ∈ b.jobs, ∀ u ∈ j.uses, u.1 ∈ WORDS ∧ u.2.natAbs ≤ 10
  th : ∀ p ∈ b.things, p.1 ∈ WORDS ∧ p.2.natAbs ≤ 10
  st : ∀ j ∈ b.jobs, j.start.natAbs ≤ 10
  cm : ∀ j ∈ b.jobs, no9 j.cmd = true
structure HoldS (B : Nat) (h : Hold) : Prop where
  fe : h.fence.natAbs ≤ B
  ma : h.mach.natAbs ≤ B
  att : h.att.natAbs ≤ B
  mo : h.mom.natAbs ≤ B
  ti : h.time.natAbs ≤ B
structure EndS (B : Nat) (e : End) : Prop where
  wo : e.word ∈ WORDS
  fe : e.fence.natAbs ≤ B
  mo : e.mom.natAbs ≤ B
  ti : e.time.natAbs ≤ B
  st : e.stop.natAbs ≤ B
  va : Sz 12 0 e.val
structure Small (B : Nat) (s : St) : Prop where
  ti : s.time.natAbs ≤ B
  ep : s.epoch.natAbs ≤ B
  mo : s.moment.natAbs ≤ B
  fe : s.fence.natAbs ≤ B
  ho : ∀ p ∈ s.holds, HoldS B p.2
  en : ∀ p ∈ s.ends, ∀ e ∈ p.2, EndS B e
  ba : ∀ p ∈ s.barred, p.2 ∈ WORDS
/-- a small letter -/
def LtSm (B : Nat) : Lt → Prop
  | .take e => e.natAbs ≤ B + 3
  | .grant e j f m => e.natAbs ≤ B + 3 ∧ j ∈ WORDS ∧ f.natAbs ≤ B + 3 ∧ m.natAbs ≤ B + 3
  | .free e j f => e.natAbs ≤ B + 3 ∧ j ∈ WORDS ∧ f.natAbs ≤ B + 3
  | .bar e j n => e.natAbs ≤ B + 3 ∧ j ∈ WORDS ∧ n ∈ WORDS
  | .ask e => e.natAbs ≤ B + 3
  | .fin m j f a o => m.natAbs ≤ B + 3 ∧ j ∈ WORDS ∧ f.natAbs ≤ B + 3 ∧ a.natAbs ≤ B + 3 ∧ Sz 12 0 (o.getD .non)
theorem HoldS.mono {B C : Nat} {h : Hold} (x : HoldS B h) (hc : B ≤ C) : HoldS C h := ⟨Nat.le_trans x.fe hc, Nat.le_trans x.ma hc, Nat.le_trans x.att hc, Nat.le_trans x.mo hc, Nat.le_trans x.ti hc⟩
theorem EndS.mono {B C : Nat} {h : End} (x : EndS B h) (hc : B ≤ C) : EndS C h := ⟨x.wo, Nat.le_trans x.fe hc, Nat.le_trans x.mo hc, Nat.le_trans x.ti hc, Nat.le_trans x.st hc, x.va⟩
theorem Small.mono {B C : Nat} {s : St} (x : Small B s) (hc : B ≤ C) : Small C s := ⟨Nat.le_trans x.ti hc, Nat.le_trans x.ep hc, Nat.le_trans x.mo hc, Nat.le_trans x.fe hc, fun p hp => (x.ho p hp).mono hc, fun p hp e he => (x.en p hp e he).mono hc, x.ba⟩
theorem outW_w (o : Option D) : outW o ∈ WORDS := by
  cases o with
  | none => exact (by decide +kernel : (("failed" : Str)) ∈ WORDS)
  | some v => exact (by decide +kernel : (("done" : Str)) ∈ WORDS)
section
variable {B : Nat} {s : St}
theorem s_hear (sm : Small B s) (hi : Inv s) {l : Lt} (hl : LtSm B l) {mv : Bool} : Small (B + 4) (hear mv s l).1 := by
  have sm' := sm.mono (show B ≤ B + 4 by omega)
  have h1 := sm.ti
  have h2 := sm.ep
  have h3 := sm.mo
  have h4 := sm.fe
  cases l with
  | take e =>
    have hl : e.natAbs ≤ B + 3 := hl
    unfold hear
    simp only []
    split
    · exact sm'
    · split
      · exact ⟨sm'.ti, by show e.natAbs ≤ _; omega, by show (s.moment + 1).natAbs ≤ _; omega, sm'.fe, sm'.ho, sm'.en, sm'.ba⟩
      · exact sm'
  | fin m j f a o =>
    obtain ⟨l1, l2, l3, l4, l5⟩ : m.natAbs ≤ B + 3 ∧ j ∈ WORDS ∧ f.natAbs ≤ B + 3 ∧ a.natAbs ≤ B + 3 ∧ Sz 12 0 (o.getD .non) := hl
    unfold hear
    simp only []
    cases hx : alk j s.holds with
    | none => exact sm'
    | some x =>
      simp only []
      split
      · have hxs := sm'.ho _ (alk_mem hx)
        refine ⟨sm'.ti, sm'.ep, by show (s.moment + 1).natAbs ≤ _; omega, sm'.fe, fun p hp => sm'.ho p (List.mem_filter.mp hp).1, fun p hp e he => ?_, sm'.ba⟩
        rcases setE_mem hp with rfl | z
        · rcases List.mem_append.mp he with w | w
          · unfold endsOf at w
            cases q : alk j s.ends with
            | none => rw [q] at w; simp at w
            | some es => rw [q] at w; exact sm'.en _ (alk_mem q) e (by simpa using w)
          · rw [List.mem_singleton.mp w]
            exact ⟨outW_w o, by show f.natAbs ≤ _; omega, hxs.mo, hxs.ti, by show (s.moment + 1).natAbs ≤ _; omega, l5⟩
        · exact sm'.en p z e he
      · exact sm'
  | grant e j f m =>
    obtain ⟨l1, l2, l3, l4⟩ : e.natAbs ≤ B + 3 ∧ j ∈ WORDS ∧ f.natAbs ≤ B + 3 ∧ m.natAbs ≤ B + 3 := hl
    unfold hear
    simp only []
    split
    · cases hx : alk j s.holds with
      | some x =>
        simp only []
        split <;> exact sm'
      | none =>
        simp only []
        split
        · have := hi.lenE (j := j)
          refine ⟨sm'.ti, sm'.ep, by show (s.moment + 1).natAbs ≤ _; omega, by show f.natAbs ≤ _; omega, fun p hp => ?_, sm'.en, sm'.ba⟩
          rcases List.mem_append.mp hp with z | z
          · exact sm'.ho p z
          · rw [List.mem_singleton.mp z]
            exact ⟨by show f.natAbs ≤ _; omega, by show m.natAbs ≤ _; omega, by show (((endsOf s j).length : Int) + 1).natAbs ≤ _; omega, by show (s.moment + 1).natAbs ≤ _; omega, by show s.time.natAbs ≤ _; omega⟩
        · exact sm'
    · exact sm'
  | free e j f =>
    unfold hear
    simp only []
    split
    · cases hx : alk j s.holds with
      | some x =>
        simp only []
        split
        · exact ⟨sm'.ti, sm'.ep, by show (s.moment + 1).natAbs ≤ _; omega, sm'.fe, fun p hp => sm'.ho p (List.mem_filter.mp hp).1, sm'.en, sm'.ba⟩
        · split <;> exact sm'
      | none =>
        simp only []
        split <;> exact sm'
    · exact sm'
  | bar e j n =>
    obtain ⟨l1, l2, l3⟩ : e.natAbs ≤ B + 3 ∧ j ∈ WORDS ∧ n ∈ WORDS := hl
    unfold hear
    simp only []
    split
    · split
      · exact sm'
      · split
        · refine ⟨sm'.ti, sm'.ep, by show (s.moment + 1).natAbs ≤ _; omega, sm'.fe, sm'.ho, sm'.en, fun p hp => ?_⟩
          rcases List.mem_append.mp hp with z | z
          · exact sm'.ba p z
          · rw [List.mem_singleton.mp z]; exact l3
        · exact sm'
    · exact sm'
  | ask e =>
    unfold hear
    simp only []
    split <;> exact sm'
theorem s_told (sm : Small B s) : Small B (ofTold s) := ⟨sm.ti, sm.ep, sm.mo, sm.fe, fun p hp => sm.ho p ((srtP_perm _).mem_iff.mp hp), fun p hp => sm.en p ((srtP_perm _).mem_iff.mp hp), fun p hp => sm.ba p ((srtP_perm _).mem_iff.mp hp)⟩
/-! what is shown of a small store -/
theorem si {B : Nat} {i : Int} (hB : B ≤ 10 ^ 5) (h : i.natAbs ≤ B + 650) : Sz 12 0 (.int i) := sz_int (by omega)
theorem all2 {P : D → Prop} {a b : D} (h1 : P a) (h2 : P b) : ∀ d ∈ [a, b], P d := fun d hd => by
  simp only [List.mem_cons, List.not_mem_nil, or_false] at hd
  rcases hd with rfl | rfl <;> assumption
theorem name_w {b : Book} (sb : SmallB b) {j : Str} (h : (jobOf b j).isSome = true) : j ∈ WORDS := by
  obtain ⟨job, ej⟩ := Option.isSome_iff_exists.mp h
  obtain ⟨m1, m2⟩ := jobOf_mem ej
  rw [← m2]; exact sb.nm job m1
end
end E64
/-! what is shown of small stores -/
namespace E64
open PySem PySem.Spec PyProof.Rows L2
theorem szT {n k m N K : Nat} {ds : List D} (h : ∀ d ∈ ds, Sz n k d) (hm : ds.length ≤ m) (h1 : m * (n + 2) + 3 ≤ N) (h2 : k + 1 ≤ K) : Sz N K (.tup ds) := (sz_tup h hm).mono h1 h2
theorem szL {n k m N K : Nat} {ds : List D} (h : ∀ d ∈ ds, Sz n k d) (hm : ds.length ≤ m) (h1 : m * (n + 2) + 3 ≤ N) (h2 : k + 1 ≤ K) : Sz N K (.lst ds) := (sz_lst h hm).mono h1 h2
theorem aN {P : D → Prop} : ∀ d ∈ ([] : List D), P d := fun d hd => nomatch hd
theorem aC {P : D → Prop} {d : D} {ds : List D} (h1 : P d) (h2 : ∀ x ∈ ds, P x) : ∀ x ∈ d :: ds, P x := fun x hx => by
  rcases List.mem_cons.mp hx with rfl | z
  · exact h1
  · exact h2 x z
theorem aM {α : Type} {P : D → Prop} {f : α → D} {l : List α} (h : ∀ x ∈ l, P (f x)) : ∀ d ∈ l.map f, P d := fun d hd => by
  obtain ⟨x, hx, rfl⟩ := List.mem_map.mp hd
  exact h x hx
/-- a store that can be shown -/
structure Shw (s : St) : Prop extends Inv s where
  sb : SmallB s.book
  sm : ∃ B, B ≤ 10 ^ 5 ∧ Small B s
section
variable {s : St} {j : Str}
theorem sw {x : Str} (h : x ∈ WORDS := by decide +kernel) : Sz 12 0 (.str x) := sz_str h
theorem Shw.out (h : Shw s) : Sz 45 1 (outD (outS s j)) := by
  obtain ⟨B, hB, sm⟩ := h.sm
  unfold outS
  cases hb : alk j s.barred with
  | some n => exact szT (aC sw (aC (sz_str (sm.ba _ (alk_mem hb))) aN)) (show 2 ≤ 3 by decide) (by decide) (by decide)
  | none =>
    have ht : (triesOf s j).natAbs ≤ 3 := by
      unfold triesOf
      cases ej : jobOf s.book j with
      | none => decide
      | some job => have := h.bk.tr job (jobOf_mem ej).1; show job.tries.natAbs ≤ 3; omega
    have hl := h.toInv.lenE (j := j)
    have hf : Sz 45 1 (outD (some (.failed (triesOf s j)))) := szT (aC sw (aC (si hB (by omega)) aN)) (show 2 ≤ 3 by decide) (by decide) (by decide)
    show Sz 45 1 (outD (outE (endsOf s j) (triesOf s j)))
    unfold outE
    cases hy : (endsOf s j).getLast? with
    | none =>
      simp only []
      split
      · exact hf
      · exact sz_non.mono (by decide) (by decide)
    | some e =>
      have he : e ∈ endsOf s j := List.mem_of_getLast? hy
      have hv : EndS B e := by
        unfold endsOf at he
        cases q : alk j s.ends with
        | none => rw [q] at he; simp at he
        | some es => rw [q] at he; exact sm.en _ (alk_mem q) e (by simpa using he)
      simp only []
      split
      · exact szT (aC sw (aC (si hB (by omega)) (aC hv.va aN))) (show 3 ≤ 3 by decide) (by decide) (by decide)
      · split
        · exact hf
        · exact sz_non.mono (by decide) (by decide)
theorem Shw.val (h : Shw s) : Sz 12 0 (valO (outS s j)) := by
  obtain ⟨B, hB, sm⟩ := h.sm
  unfold outS
  cases hb : alk j s.barred with
  | some n => exact sz_non
  | none =>
    show Sz 12 0 (valO (outE (endsOf s j) (triesOf s j)))
    unfold outE
    cases hy : (endsOf s j).getLast? with
    | none =>
      simp only []
      split <;> exact sz_non
    | some e =>
      have he : e ∈ endsOf s j := List.mem_of_getLast? hy
      have hv : EndS B e := by
        unfold endsOf at he
        cases q : alk j s.ends with
        | none => rw [q] at he; simp at he
        | some es => rw [q] at he; exact sm.en _ (alk_mem q) e (by simpa using he)
      simp only []
      split
      · exact hv.va
      · split <;> exact sz_non
theorem Shw.res (h : Shw s) : Sz 267 2 (resD s j) := by
  unfold resD needsOf
  cases ej : jobOf s.book j with
  | none => exact szT (n := 31) (k := 1) (m := 8) (ds := []) aN (by decide) (by decide) (by decide)
  | some job =>
    have m1 := (jobOf_mem ej).1
    exact szT (n := 31) (k := 1) (m := 8) (aM fun n hn => szT (m := 2) (aC (sz_str (h.sb.nd job m1 n hn)) (aC h.val aN)) (by simp) (by decide) (by decide)) (by have := h.bk.ln job m1; simp; omega) (by decide) (by decide)
theorem Shw.bars (h : Shw s) : Sz 31 1 (barsD s j) := by
  obtain ⟨B, hB, sm⟩ := h.sm
  have one : ∀ {x : Str}, x ∈ WORDS → Sz 31 1 (.tup [.str x]) := fun hx => szT (m := 2) (aC (sz_str hx) aN) (by simp) (by decide) (by decide)
  have two : ∀ {x : Str} {d : D}, x ∈ WORDS → Sz 12 0 d → Sz 31 1 (.tup [.str x, d]) := fun hx hd => szT (m := 2) (aC (sz_str hx) (aC hd aN)) (by simp) (by decide) (by decide)
  unfold barsD
  cases ej : jobOf s.book j with
  | none => exact one (by decide +kernel)
  | some job =>
    have m1 := (jobOf_mem ej).1
    simp only []
    split
    · exact one (by decide +kernel)
    · split
      · exact one (by decide +kernel)
      · split
        · exact two (by decide +kernel) (si hB (by have := h.sb.st job m1; omega))
        · split
          · rename_i n ns eh
            exact two (by decide +kernel) (sz_str (h.sb.nd job m1 n (hind_in (by rw [eh]; exact List.mem_cons_self))))
          · split
            · rename_i u eu
              unfold shortU at eu
              exact two (by decide +kernel) (sz_str (h.sb.us job m1 u (List.mem_of_find?_eq_some eu)).1)
            · exact sz_non.mono (by decide) (by decide)
theorem Shw.bar (h : Shw s) : Sz 12 0 (optS (needS s j)) := by
  unfold needS
  cases ej : jobOf s.book j with
  | none => exact sz_non
  | some job =>
    have m1 := (jobOf_mem ej).1
    simp only []
    split
    · split
      · rename_i n ns eh
        split
        · exact sz_str (h.sb.nd job m1 n (hind_in (by rw [eh]; exact List.mem_cons_self)))
        · exact sz_non
      · exact sz_non
    · exact sz_non
theorem Shw.still (h : Shw s) : Sz 200 1 (stillD s) := by
  unfold stillD
  exact szT (n := 12) (m := 8) (aM fun j hj => sz_str (h.sb.nm j (List.mem_filter.mp hj).1)) (by have := h.bk.lj; have := List.length_filter_le (fun j : Job => (outS s j.name).isNone) s.book.jobs; simp; omega) (by decide) (by decide)
theorem subs_abs {n : Nat} (k : Str) : ∀ {us : List (Str × Int)} {v : Int}, (∀ u ∈ us, u.2.natAbs ≤ 10) → v.natAbs ≤ n → (us.foldl (subV k) v).natAbs ≤ n + 10 * us.length
  | [], v, _, h => h
  | u :: us, v, hu, h => by
    have a := hu u List.mem_cons_self
    have hv : (subV k v u).natAbs ≤ n + 10 := by unfold subV; split <;> omega
    have := subs_abs (n := n + 10) k (us := us) (fun x hx => hu x (List.mem_cons_of_mem _ hx)) hv
    rw [List.foldl_cons, List.length_cons]
    omega
theorem Shw.free (h : Shw s) : Sz 300 2 (.tup ((freeOf s).map useD)) := by
  have kk := free_keys h.bk (s := s)
  have nd : ((freeOf s).map (·.1)).Nodup := by rw [kk]; exact h.bk.tnod
  have hlen : (freeOf s).length = s.book.things.length := by have := congrArg List.length kk; simpa using this
  refine szT (n := 31) (k := 1) (m := 8) (aM fun p hp => ?_) (by have := h.bk.lt; simp; omega) (by decide) (by decide)
  have hk : p.1 ∈ s.book.things.map (·.1) := by rw [← kk]; exact List.mem_map.mpr ⟨p, hp, rfl⟩
  obtain ⟨q, hq, eq⟩ := List.mem_map.mp hk
  have hw := (h.sb.th q hq).1
  rw [eq] at hw
  have e1 := (alk_some nd).mpr hp
  have e2 := alk_free' h.bk p.1 (hs := s.holds) rfl (show alk p.1 s.book.things = some q.2 from (alk_some h.bk.tnod).mpr (by rw [← eq]; exact hq))
  have e3 : p.2 = s.holds.foldl (fun z h => (usesOf s.book h.1).foldl (subV p.1) z) q.2 := by
    have : alk p.1 (freeOf s) = some (s.holds.foldl (fun z h => (usesOf s.book h.1).foldl (subV p.1) z) q.2) := e2
    rw [this] at e1; exact (Option.some.inj e1).symm
  have key : ∀ (hs : List (Str × Hold)) (v : Int) (n : Nat), v.natAbs ≤ n → (hs.foldl (fun z h => (usesOf s.book h.1).foldl (subV p.1) z) v).natAbs ≤ n + 80 * hs.length := by
    intro hs
    induction hs with
    | nil => intro v n hv; exact hv
    | cons x hs ih =>
      intro v n hv
      have hu : ∀ u ∈ usesOf s.book x.1, u.2.natAbs ≤ 10 := fun u hu => by
        unfold usesOf at hu
        cases ej : jobOf s.book x.1 with
        | none => rw [ej] at hu; simp at hu
        | some job => rw [ej] at hu; exact (h.sb.us job (jobOf_mem ej).1 u (by simpa using hu)).2
      have hl : (usesOf s.book x.1).length ≤ 8 := by
        unfold usesOf
        cases ej : jobOf s.book x.1 with
        | none => simp
        | some job => simpa using h.bk.lu job (jobOf_mem ej).1
      have := subs_abs (n := n) p.1 hu hv
      have := ih ((usesOf s.book x.1).foldl (subV p.1) v) (n + 80) (by omega)
      rw [List.foldl_cons, List.length_cons]
      omega
  have hp2 := key s.holds q.2 10 (h.sb.th q hq).2
  rw [← e3] at hp2
  have l8 := h.toInv.hl
  exact szT (m := 2) (aC (sz_str hw) (aC (sz_int (by omega)) aN)) (by simp) (by decide) (by decide)
theorem Shw.holdS (h : Shw s) {B : Nat} (hB : B ≤ 10 ^ 5) {x : Hold} (hx : HoldS B x) : Sz 73 1 (holdD x) :=
  szT (m := 5) (aC (si hB (by have := hx.fe; omega)) (aC (si hB (by have := hx.ma; omega)) (aC (si hB (by have := hx.att; omega)) (aC (si hB (by have := hx.mo; omega)) (aC (si hB (by have := hx.ti; omega)) aN))))) (by simp) (by decide) (by decide)
theorem Shw.endS (h : Shw s) {B : Nat} (hB : B ≤ 10 ^ 5) {x : End} (hx : EndS B x) : Sz 87 1 (endD x) :=
  szT (m := 6) (aC (sz_str hx.wo) (aC (si hB (by have := hx.fe; omega)) (aC (si hB (by have := hx.mo; omega)) (aC (si hB (by have := hx.ti; omega)) (aC (si hB (by have := hx.st; omega)) (aC hx.va aN)))))) (by simp) (by decide) (by decide)
theorem Shw.told (h : Shw s) : Sz 36000 5 (toldD s) := by
  obtain ⟨B, hB, sm⟩ := h.sm
  have hl := h.toInv.hl
  have el := h.toInv.el8
  have bl := h.toInv.bl
  have a1 : Sz 4400 4 (.tup ((srtP s.holds).map fun p => .tup [.str p.1, holdD p.2])) := szT (n := 153) (k := 2) (m := 8) (aM fun p hp => szT (n := 73) (k := 1) (m := 2) (aC ((sz_str (name_w h.sb (h.held p ((srtP_perm _).mem_iff.mp hp)))).mono (by decide) (by decide)) (aC (h.holdS hB (sm.ho p ((srtP_perm _).mem_iff.mp hp))) aN)) (by simp) (by decide) (by decide)) (by rw [List.length_map, (srtP_perm _).length_eq]; exact hl) (by decide) (by decide)
  have a2 : Sz 4400 4 (.tup ((srtP s.ends).map fun p => .tup [.str p.1, .tup (p.2.map endD)])) := szT (n := 547) (k := 3) (m := 8) (aM fun p hp => by
    have hp' := (srtP_perm _).mem_iff.mp hp
    have hlen : p.2.length ≤ 3 := by
      have := h.el p hp'
      have := tries_le (j := p.1) h.bk
      omega
    exact szT (n := 270) (k := 2) (m := 2) (aC ((sz_str (name_w h.sb (h.ei p hp'))).mono (by decide) (by decide)) (aC (szT (n := 87) (k := 1) (m := 3) (aM fun e he => h.endS hB (sm.en p hp' e he)) (by simpa using hlen) (by decide) (by decide)) aN)) (by simp) (by decide) (by decide)) (by rw [List.length_map, (srtP_perm _).length_eq]; exact el) (by decide) (by decide)
  have a3 : Sz 4400 4 (.tup ((srtP s.barred).map fun p => .tup [.str p.1, .str p.2])) := szT (n := 31) (k := 1) (m := 8) (aM fun p hp => by
    have hp' := (srtP_perm _).mem_iff.mp hp
    exact szT (m := 2) (aC (sz_str (name_w h.sb (h.bi p hp'))) (aC (sz_str (sm.ba p hp')) aN)) (by simp) (by decide) (by decide)) (by rw [List.length_map, (srtP_perm _).length_eq]; exact bl) (by decide) (by decide)
  unfold toldD
  have w : ∀ {d : D}, Sz 12 0 d → Sz 4400 4 d := fun h => h.mono (by decide) (by decide)
  exact szT (m := 8) (aC (w sw) (aC (w (si hB (by have := sm.ep; omega))) (aC (w (si hB (by have := sm.mo; omega))) (aC (w (si hB (by have := sm.ti; omega))) (aC (w (si hB (by have := sm.fe; omega))) (aC a1 (aC a2 (aC a3 aN)))))))) (by simp) (by decide) (by decide)
theorem Shw.noS (h : Shw s) {B : Nat} (hB : B ≤ 10 ^ 5) (sm : Small B s) {l : Lt} (hl : LtSm B l) : Sz 36000 5 (noD s l) := by
  have w : ∀ {d : D}, Sz 12 0 d → Sz 31 1 d := fun h => h.mono (by decide) (by decide)
  have hl' : Sz 201 2 (letD l) := by
    cases l with
    | take e =>
      have hl : e.natAbs ≤ B + 3 := hl
      exact szT (m := 6) (n := 31) (aC (w sw) (aC (w (si hB (by omega))) aN)) (by simp) (by decide) (by decide)
    | grant e j f m =>
      obtain ⟨l1, l2, l3, l4⟩ : e.natAbs ≤ B + 3 ∧ j ∈ WORDS ∧ f.natAbs ≤ B + 3 ∧ m.natAbs ≤ B + 3 := hl
      exact szT (m := 6) (n := 31) (aC (w sw) (aC (w (si hB (by omega))) (aC (w (sz_str l2)) (aC (w (si hB (by omega))) (aC (w (si hB (by omega))) aN))))) (by simp) (by decide) (by decide)
    | free e j f =>
      obtain ⟨l1, l2, l3⟩ : e.natAbs ≤ B + 3 ∧ j ∈ WORDS ∧ f.natAbs ≤ B + 3 := hl
      exact szT (m := 6) (n := 31) (aC (w sw) (aC (w (si hB (by omega))) (aC (w (sz_str l2)) (aC (w (si hB (by omega))) aN)))) (by simp) (by decide) (by decide)
    | bar e j n =>
      obtain ⟨l1, l2, l3⟩ : e.natAbs ≤ B + 3 ∧ j ∈ WORDS ∧ n ∈ WORDS := hl
      exact szT (m := 6) (n := 31) (aC (w sw) (aC (w (si hB (by omega))) (aC (w (sz_str l2)) (aC (w (sz_str l3)) aN)))) (by simp) (by decide) (by decide)
    | ask e =>
      have hl : e.natAbs ≤ B + 3 := hl
      exact szT (m := 6) (n := 31) (aC (w sw) (aC (w (si hB (by omega))) aN)) (by simp) (by decide) (by decide)
    | fin m j f a o =>
      obtain ⟨l1, l2, l3, l4, l5⟩ : m.natAbs ≤ B + 3 ∧ j ∈ WORDS ∧ f.natAbs ≤ B + 3 ∧ a.natAbs ≤ B + 3 ∧ Sz 12 0 (o.getD .non) := hl
      have lo : Sz 31 1 (outcD o) := by
        cases o with
        | none => exact szT (m := 2) (aC sw aN) (by simp) (by decide) (by decide)
        | some v => exact szT (m := 2) (aC sw (aC l5 aN)) (by simp) (by decide) (by decide)
      exact szT (m := 6) (n := 31) (aC (w sw) (aC (w (si hB (by omega))) (aC (w (sz_str l2)) (aC (w (si hB (by omega))) (aC (w (si hB (by omega))) (aC lo aN)))))) (by simp) (by decide) (by decide)
  unfold noD
  exact szT (m := 3) (n := 201) (k := 2) (aC ((sw (x := "no")).mono (by decide) (by decide)) (aC ((si hB (by have := sm.ep; omega)).mono (by decide) (by decide)) (aC hl' aN))) (by simp) (by decide) (by decide)
theorem Shw.ans (h : Shw s) {B : Nat} (hB : B ≤ 10 ^ 5) (sm : Small B s) {l : Lt} (hl : LtSm B l) {mv : Bool} : Sz 36000 5 (hear mv s l).2 := by
  have no := h.noS hB sm hl
  have w : ∀ {d : D}, Sz 12 0 d → Sz 267 2 d := fun h => h.mono (by decide) (by decide)
  cases l with
  | take e =>
    have hl : e.natAbs ≤ B + 3 := hl
    unfold hear
    simp only []
    split
    · exact no
    · exact szT (m := 2) (aC sw (aC (si hB (by omega)) aN)) (by simp) (by decide) (by decide)
  | fin m j f a o =>
    obtain ⟨l1, l2, l3, l4, l5⟩ : m.natAbs ≤ B + 3 ∧ j ∈ WORDS ∧ f.natAbs ≤ B + 3 ∧ a.natAbs ≤ B + 3 ∧ Sz 12 0 (o.getD .non) := hl
    have t : ∀ {x : Str}, x ∈ WORDS → Sz 36000 5 (.tup [.str x, .int m, .str j, .int f]) := fun hx => szT (m := 4) (aC (sz_str hx) (aC (si hB (by omega)) (aC (sz_str l2) (aC (si hB (by omega)) aN)))) (by simp) (by decide) (by decide)
    have t2 : Sz 36000 5 (.tup [.str (if ((endsOf s j).any fun e => decide (e.fence = f)) = true then "ended" else "refused"), .int m, .str j, .int f]) := by
      split
      · exact t (by decide +kernel)
      · exact t (by decide +kernel)
    unfold hear
    simp only []
    cases hx : alk j s.holds with
    | none => exact t2
    | some x =>
      simp only []
      split
      · exact t (by decide +kernel)
      · exact t2
  | grant e j f m =>
    obtain ⟨l1, l2, l3, l4⟩ : e.natAbs ≤ B + 3 ∧ j ∈ WORDS ∧ f.natAbs ≤ B + 3 ∧ m.natAbs ≤ B + 3 := hl
    have t : ∀ {a : Int}, a.natAbs ≤ B + 5 → Sz 36000 5 (.tup [.str "granted", .int e, .str j, .int f, .int m, .int a, resD s j]) := fun ha => szT (m := 7) (aC (w sw) (aC (w (si hB (by omega))) (aC (w (sz_str l2)) (aC (w (si hB (by omega))) (aC (w (si hB (by omega))) (aC (w (si hB (by omega))) (aC h.res aN))))))) (by simp) (by decide) (by decide)
    unfold hear
    simp only []
    split
    · cases hx : alk j s.holds with
      | some x =>
        simp only []
        split
        · exact t (by have := (sm.ho _ (alk_mem hx)).att; simp only at this; omega)
        · exact no
      | none =>
        simp only []
        split
        · exact t (by have := h.toInv.lenE (j := j); omega)
        · exact no
    · exact no
  | free e j f =>
    obtain ⟨l1, l2, l3⟩ : e.natAbs ≤ B + 3 ∧ j ∈ WORDS ∧ f.natAbs ≤ B + 3 := hl
    have t : Sz 36000 5 (.tup [.str "freed", .int e, .str j, .int f]) := szT (m := 4) (aC sw (aC (si hB (by omega)) (aC (sz_str l2) (aC (si hB (by omega)) aN)))) (by simp) (by decide) (by decide)
    unfold hear
    simp only []
    split
    · cases hx : alk j s.holds with
      | some x =>
        simp only []
        split
        · exact t
        · split
          · exact no
          · exact t
      | none =>
        simp only []
        split
        · exact no
        · exact t
    · exact no
  | bar e j n =>
    obtain ⟨l1, l2, l3⟩ : e.natAbs ≤ B + 3 ∧ j ∈ WORDS ∧ n ∈ WORDS := hl
    have t : Sz 36000 5 (.tup [.str "barred", .int e, .str j]) := szT (m := 3) (aC sw (aC (si hB (by omega)) (aC (sz_str l2) aN))) (by simp) (by decide) (by decide)
    unfold hear
    simp only []
    split
    · split
      · exact t
      · split
        · exact t
        · exact no
    · exact no
  | ask e =>
    unfold hear
    simp only []
    split
    · exact h.told
    · exact no
end
end E64
/-! the law's own follows the store -/
namespace E64
open PySem PySem.Spec PyProof.Rows L2
section
variable {lay lay' : Bool} {o s : St} {Q : D → Prop}
theorem Shw.named (h : Shw s) : Named s := ⟨fun j hj n hn => words_ok _ (h.sb.nd j hj n hn), fun j hj u hu => words_ok _ (h.sb.us j hj u hu).1⟩
theorem bl_ne (b : Bool) (Q : D → Prop) : fNe (.bl b) (.bl b) Q ↔ Q (.bl false) := by
  show Q (.bl (!decide (b = b))) ↔ _
  simp
theorem comp_to {α : Type} {g : CG} {ct : CB} {ce : C} {env : Env} (enc : α → D) (F : α → Option D) : ∀ (l : List α) (acc : List D) (Q : List D → Prop),
    (∀ x ∈ l, ∀ P : Option D → Prop, P (F x) → (g (enc x) env fun env1 => ct env1 fun b => if b = true then ce env1 fun y => P (some y) else P none)) → acc.length + l.length ≤ 100000 → Q (acc ++ l.filterMap F) → compW g ct ce env (l.map enc) acc Q
  | [], acc, Q, _, _, q => by simpa using q
  | x :: l, acc, Q, h, hl, q => by
    rw [List.map_cons, x_cW1]
    simp only [List.length_cons] at hl
    refine h x List.mem_cons_self (fun o => match o with
      | some y => acc.length < 100000 ∧ compW g ct ce env (l.map enc) (acc ++ [y]) Q
      | none => compW g ct ce env (l.map enc) acc Q) ?_
    cases e : F x with
    | none =>
      rw [List.filterMap_cons_none e] at q
      exact comp_to enc F l acc Q (fun y hy => h y (List.mem_cons_of_mem _ hy)) (by omega) q
    | some y =>
      rw [List.filterMap_cons_some e] at q
      exact ⟨by omega, comp_to enc F l (acc ++ [y]) Q (fun y hy => h y (List.mem_cons_of_mem _ hy)) (by simp; omega) (by rw [List.append_assoc]; exact q)⟩
def followB : CS := (sSeq (sSet 5 (cLst (aCons (cCall 2 g_outcome_in (aCons (cVar 1) (aCons (cVar 4) (aNil)))) (aCons (cCall 2 g_results_in (aCons (cVar 1) (aCons (cVar 4) (aNil)))) (aCons (cCall 2 g_attempt_in (aCons (cVar 1) (aCons (cVar 4) (aNil)))) (aCons (cCall 2 g_bars_grant (aCons (cVar 1) (aCons (cVar 4) (aNil)))) (aNil)))))))
  (sSeq (sSet 6 (cLst (aCons (cCall 2 g_l_outcome_of (aCons (cVar 0) (aCons (cVar 4) (aNil)))) (aCons (cCall 2 g_l_values (aCons (cVar 0) (aCons (cVar 4) (aNil)))) (aCons (cOp fAdd (cCB fLen (aCons (cGetN (cDGet (cVar 0) (cC (.str "ends"))) (cVar 4) (cTup (aNil))) (aNil))) (cC (.int 1))) (aCons (cCall 2 g_l_hindered (aCons (cVar 0) (aCons (cVar 4) (aNil)))) (aNil)))))))
  (sSeq (sIf (cOr (cTest (cOp fNe (cCB fRepr (aCons (cVar 5) (aNil))) (cCB fRepr (aCons (cVar 6) (aNil))))) (cTest (cOp fNe (cCB fRepr (aCons (cCall 2 g_bar_need (aCons (cVar 1) (aCons (cVar 4) (aNil)))) (aNil))) (cCB fRepr (aCons (cCall 2 g_l_barring (aCons (cVar 0) (aCons (cVar 4) (aNil)))) (aNil)))))) (sRet (cC (.bl false))) (sNil))
  (sIf (cTest (cOp fNe (cCall 2 g_has_ended (aCons (cVar 1) (aCons (cVar 4) (aNil)))) (cOp fIsNot (cOp fIx (cVar 6) (cC (.int 0))) (cC .non)))) (sRet (cC (.bl false))) (sNil)))))
def roundD (s : St) (n : Str) : D := .lst [outD (outS s n), resD s n, .int ((endsOf s n).length + 1), barsD s n]
theorem Shw.round (h : Shw s) (n : Str) : Sz 1100 3 (roundD s n) :=
  szL (n := 267) (k := 2) (m := 4) (aC (h.out.mono (by decide) (by decide)) (aC h.res (aC ((sz_int (by have := h.toInv.lenE (j := n); omega)).mono (by decide) (by decide)) (aC (h.bars.mono (by decide) (by decide)) aN)))) (by simp) (by decide) (by decide)
theorem p_followB (ho : Shw o) (hs : Shw s) (r : Rel o s) {Nx : Env → Prop} : ∀ (ns : List Str) (sl : List (Option D)), (∀ n ∈ ns, (jobOf s.book n).isSome = true) → sl.length = 10 → sl[0]? = some (some (stD lay o)) → sl[1]? = some (some (stD lay' s)) → (∀ e, Nx e) → forW (gN 4) followB (ns.map .str) ⟨sl, none⟩ Nx Q
  | [], sl, _, _, _, _, k => k _
  | n :: ns, sl, hn, hl, h0, h1, k => by
    have hio := ho.toInv
    have his := hs.toInv
    have hj := hn n List.mem_cons_self
    have hjo : (jobOf o.book n).isSome = true := by rw [r.bk]; exact hj
    rw [List.map_cons, x_fW1]
    have g0 : (sl.set 4 (some (D.str n)))[0]? = some (some (stD lay o)) := by rw [List.getElem?_set_ne (by decide)]; exact h0
    have g1 : (sl.set 4 (some (D.str n)))[1]? = some (some (stD lay' s)) := by rw [List.getElem?_set_ne (by decide)]; exact h1
    have g4 : (sl.set 4 (some (D.str n)))[4]? = some (some (.str n)) := by simp [hl]
    have gl : (sl.set 4 (some (D.str n))).length = 10 := by simp [hl]
    rw [x_gN, x_put]
    generalize (sl.set 4 (some (D.str n))) = s1 at g0 g1 g4 gl
    have ih : ∀ s2 : List (Option D), s2.length = 10 → s2[0]? = some (some (stD lay o)) → s2[1]? = some (some (stD lay' s)) → forW (gN 4) followB (ns.map .str) ⟨s2, none⟩ Nx Q := fun s2 a b c => p_followB ho hs r ns s2 (fun x hx => hn x (List.mem_cons_of_mem _ hx)) a b c k
    conv => unfold followB
    simp only [x_seq, x_set, x_lst, x_acons, x_anil, x_call, x_var, g0, g1, g4, x_exo2, List.length_cons, List.length_nil, true_and]
    rw [p_outcome_in _ _ _ his.en hj, p_results his.toBase hj, p_attempt]
    refine p_bars his.toAsk ⟨by decide, ?_⟩
    simp only [x_put]
    have er : D.lst [outD (outS s n), resD s n, .int ((endsOf s n).length + 1), barsD s n] = roundD s n := rfl
    rw [er]
    have k0 : (s1.set 5 (some (roundD s n)))[0]? = some (some (stD lay o)) := by rw [List.getElem?_set_ne (by decide)]; exact g0
    have k1 : (s1.set 5 (some (roundD s n)))[1]? = some (some (stD lay' s)) := by rw [List.getElem?_set_ne (by decide)]; exact g1
    have k4 : (s1.set 5 (some (roundD s n)))[4]? = some (some (.str n)) := by rw [List.getElem?_set_ne (by decide)]; exact g4
    have k5 : (s1.set 5 (some (roundD s n)))[5]? = some (some (roundD s n)) := by simp [gl]
    have kl : (s1.set 5 (some (roundD s n))).length = 10 := by simp [gl]
    generalize (s1.set 5 (some (roundD s n))) = s2 at k0 k1 k4 k5 kl
    simp only [x_var, k0, k4, x_exo2, x_op, x_cb, x_acons, x_anil, x_getN, x_dget, x_c, x_tup, List.length_nil, Nat.zero_le, true_and, g_ends, isDc_ends, gN_ends, eEnds]
    refine p_lout' hio hjo ?_
    refine p_lvalues hio hjo ?_
    rw [r.outS hio, r.resD hio, r.endsOf hio]
    simp only [x_lenT, List.length_map, x_add]
    refine p_lhind hio ho.named ?_
    rw [r.barsD hio, er]
    refine ⟨by decide, ?_⟩
    have m0 : (s2.set 6 (some (roundD s n)))[0]? = some (some (stD lay o)) := by rw [List.getElem?_set_ne (by decide)]; exact k0
    have m1 : (s2.set 6 (some (roundD s n)))[1]? = some (some (stD lay' s)) := by rw [List.getElem?_set_ne (by decide)]; exact k1
    have m4 : (s2.set 6 (some (roundD s n)))[4]? = some (some (.str n)) := by rw [List.getElem?_set_ne (by decide)]; exact k4
    have m5 : (s2.set 6 (some (roundD s n)))[5]? = some (some (roundD s n)) := by rw [List.getElem?_set_ne (by decide)]; exact k5
    have m6 : (s2.set 6 (some (roundD s n)))[6]? = some (some (roundD s n)) := by simp [kl]
    have ml : (s2.set 6 (some (roundD s n))).length = 10 := by simp [kl]
    generalize (s2.set 6 (some (roundD s n))) = s3 at m0 m1 m4 m5 m6 ml
    simp only [x_if, x_or, x_test, x_op, x_cb, x_acons, x_anil, x_var, m0, m1, m4, m5, m6, x_exo2, x_call, List.length_cons, List.length_nil, x_repr (hs.round n) (show 1100 ≤ 16000000 by decide) (show 3 ≤ 64 by decide), x_neS, isB_bl, decide_true, Bool.not_true, Bool.false_eq_true, if_false]
    refine ⟨by decide, p_bar_need his.toAsk hj ?_⟩
    rw [x_repr hs.bar (by decide) (by decide)]
    refine ⟨by decide, p_lbarring hio ho.named hjo ?_⟩
    rw [r.needS hio, x_repr hs.bar (by decide) (by decide), x_neS, isB_bl]
    simp only [decide_true, Bool.not_true, Bool.false_eq_true, if_false, x_nil, x_if, x_test, x_op, x_call, x_acons, x_anil, x_var, m0, m1, m4, m6, x_exo2, x_c, List.length_cons, List.length_nil, roundD, x_ixL, at_0, x_exo, x_isnot, isN_out]
    refine ⟨by decide, (p_has_ended his.toBase hj).mpr ?_⟩
    have eb : (!(outS s n).isNone) = (outS s n).isSome := by cases outS s n <;> rfl
    rw [eb, bl_ne, isB_bl]
    exact ih s3 ml m0 m1
theorem p_follows (ho : Shw o) (hs : Shw s) (r : Rel o s) (q : Q (.bl true)) : g_l_follows [stD lay o, stD lay' s] Q := by
  have hio := ho.toInv
  have his := hs.toInv
  have hno := ho.named
  unfold g_l_follows c_l_follows
  simp [x_var]
  refine p_lleft hio.bk hio.held ?_
  simp [x_put, x_var]
  refine p_free his.bk his.held ?_
  rw [x_repr hs.free (by decide) (by decide)]
  have kk := free_keys hio.bk (s := o)
  have nd : ((freeOf o).map (·.1)).Nodup := by rw [kk]; exact hio.bk.tnod
  rw [x_wipe2 _ _ _ rfl]
  rw [comp_fm useD (fun u => some (useD (u.1, (alk u.1 (freeOf o)).getD 0))) _ _ _ (fun u hu P => by
    have hk : u.1 ∈ (freeOf o).map (·.1) := by rw [kk]; exact List.mem_map.mpr ⟨u, hu, rfl⟩
    obtain ⟨v, hv⟩ := Option.isSome_iff_exists.mp (alk_isSome.mpr hk)
    simp only [useD, x_gT, List.length_cons, List.length_nil, true_and, x_puts1, x_puts0, x_put]
    simp [x_var, lk_map D.int, hv]) (by have := hio.bk.lt; simp; omega), fm_some, List.nil_append]
  have e : (o.book.things.map fun u => useD (u.1, (alk u.1 (freeOf o)).getD 0)) = (freeOf s).map useD := by
    rw [← r.freeOf hio]
    conv => rhs; rw [← look_all nd kk.symm]
    rw [List.map_map]; rfl
  rw [e]
  rw [x_repr hs.free (by decide) (by decide), x_neS, isB_bl]
  simp only [decide_true, Bool.not_true, Bool.false_eq_true, if_false]
  have hlj := hio.bk.lj
  rw [x_wipe1 _ _ rfl, comp_fm jobD (fun j => some (.str j.name)) _ _ _ (fun j _ P => by simp [x_var, x_put]) (by simp; omega), fm_some, List.nil_append]
  rw [p_still his.toBase, x_repr hs.still (by decide) (by decide)]
  rw [x_wipe1 _ _ rfl]
  have en : (o.book.jobs.map fun j => D.str j.name) = (o.book.jobs.map Job.name).map D.str := by rw [List.map_map]; rfl
  rw [en]
  refine comp_to D.str (fun n => if (outS o n).isNone = true then some (.str n) else none) _ _ _ (fun n hn P hP => ?_) (by simp; omega) ?_
  · obtain ⟨j, hj, rfl⟩ := List.mem_map.mp hn
    simp [x_var, x_put]
    refine p_lout' hio (jobOf_self hj) ?_
    rw [isN_out]
    cases h : outS o j.name with
    | none => simpa [h] using hP
    | some x => simpa [h] using hP
  rw [fm_if, List.nil_append]
  have es : D.tup (((o.book.jobs.map Job.name).filter fun n => (outS o n).isNone).map fun n => D.str n) = stillD s := by
    unfold stillD
    rw [← r.bk, List.filter_map, List.map_map]
    have : (fun j : Job => (outS o j.name).isNone) = fun j => (outS s j.name).isNone := funext fun j => by rw [r.outS hio]
    show D.tup ((o.book.jobs.filter fun j => (outS o j.name).isNone).map _) = _
    rw [this]; rfl
  rw [es, x_repr hs.still (by decide) (by decide), x_neS, isB_bl]
  simp only [decide_true, Bool.not_true, Bool.false_eq_true, if_false]
  refine p_followB ho hs r _ _ (fun n hn => ?_) rfl rfl rfl (fun _ => q)
  obtain ⟨j, hj, rfl⟩ := List.mem_map.mp hn
  rw [← r.bk]
  exact jobOf_self hj
end
end E64
/-! the letters drawn -/
namespace E64
open PySem PySem.Spec PyProof.Rows L2
theorem pick_ix {ds : List D} {m : Int} {Q : D → Prop} (hm : m = ds.length) (h0 : 0 < ds.length) (h1 : ds.length < 1000000) (h : ∀ d ∈ ds, Q d) : g_l_pick [.src, .int m] fun i => fIx (.lst ds) i Q := by
  rw [x_pick]
  refine ⟨by omega, fun r g0 g1 => ?_⟩
  obtain ⟨d, e, hd⟩ := atI_in (ds := ds) (r := r) g0 (by omega)
  rw [x_ixL]
  exact ⟨d, e, h d hd⟩
theorem mx_le {a j : Int} {n : Nat} (h1 : a.natAbs ≤ n) (h2 : j.natAbs ≤ n) : (if j > a then j else a).natAbs ≤ n := by split <;> assumption
def tailB : CS := (sSeq (sSet 9 (cCB fList (aCons (cVar 2) (aNil))))
  (sSeq (sFor (wTup (cOp fIx (cDGet (cVar 1) (cC (.str "book"))) (cC (.int 1)))) (gN 10) (sSet 9 (cOp fAdd (cVar 9) (cCB fList (aCons (cOp fIx (cVar 10) (cC (.int 2))) (aNil))))))
  (sSeq (sSet 11 (cComp (wSeq (cSl (cVar 2) (oNone) (oSome (cUn fNeg (cC (.int 1)))))) [17] (gN 17) (cTest (cOp fIsNot (cCall 2 g_l_barring (aCons (cVar 1) (aCons (cVar 17) (aNil)))) (cC .non))) (cVar 17)))
  (sSeq (sIf (cAnd (cTest (cOp fNe (cVar 11) (cLst (aNil)))) (cTest (cOp fGt (cCall 2 g_l_pick (aCons (cVar 0) (aCons (cC (.int 3)) (aNil)))) (cC (.int 0))))) (sSeq (sSet 3 (cOp fIx (cVar 11) (cCall 2 g_l_pick (aCons (cVar 0) (aCons (cCB fLen (aCons (cVar 11) (aNil))) (aNil))))))
  (sRet (cTup (aCons (cC (.str "bar")) (aCons (cVar 5) (aCons (cVar 3) (aCons (cCall 2 g_l_barring (aCons (cVar 1) (aCons (cVar 3) (aNil)))) (aNil)))))))) (sNil))
  (sRet (cTup (aCons (cC (.str "bar")) (aCons (cVar 5) (aCons (cVar 3) (aCons (cOp fIx (cVar 9) (cCall 2 g_l_pick (aCons (cVar 0) (aCons (cCB fLen (aCons (cVar 9) (aNil))) (aNil))))) (aNil)))))))))))
def tailA : CS := (sSeq (sIf (cTest (cOp fEq (cVar 4) (cC (.int 10)))) (sRet (cTup (aCons (cC (.str "ask")) (aCons (cVar 5) (aNil))))) (sNil))
  tailB)
theorem letter_is : c_l_draw_letter = sSeq (sSet 2 (cOp fAdd (cComp (wTup (cOp fIx (cDGet (cVar 1) (cC (.str "book"))) (cC (.int 1)))) [10] (gN 10) (bYes) (cOp fIx (cVar 10) (cC (.int 0)))) (cLst (aCons (cC (.str "zz")) (aNil)))))
  (sSeq (sPar [3, 4, 5] (aCons (cOp fIx (cVar 2) (cCall 2 g_l_pick (aCons (cVar 0) (aCons (cCB fLen (aCons (cVar 2) (aNil))) (aNil))))) (aCons (cCall 2 g_l_pick (aCons (cVar 0) (aCons (cC (.int 12)) (aNil)))) (aCons (cDGet (cVar 1) (cC (.str "epoch"))) (aNil)))))
  (sSeq (sPar [6, 7] (aCons (cOp fAdd (cOp fAdd (cDGet (cVar 1) (cC (.str "fence"))) (cC (.int 1))) (cCall 2 g_l_pick (aCons (cVar 0) (aCons (cC (.int 2)) (aNil))))) (aCons (cCall 2 g_l_pick (aCons (cVar 0) (aCons (cC (.int 3)) (aNil)))) (aNil))))
  (sSeq (sIf (cTest (cOp fEq (cVar 4) (cC (.int 0)))) (sRet (cTup (aCons (cC (.str "take")) (aCons (cCB fMax (aCons (cC (.int 1)) (aCons (cOp fSub (cOp fAdd (cVar 5) (cCall 2 g_l_pick (aCons (cVar 0) (aCons (cC (.int 3)) (aNil))))) (cC (.int 1))) (aNil)))) (aNil))))) (sNil))
  (sSeq (sSet 5 (cCB fMax (aCons (cC (.int 1)) (aCons (cOp fAdd (cOp fSub (cVar 5) (cCB fInt (aCons (cOp fEq (cCall 2 g_l_pick (aCons (cVar 0) (aCons (cC (.int 8)) (aNil)))) (cC (.int 0))) (aNil)))) (cCB fInt (aCons (cOp fEq (cCall 2 g_l_pick (aCons (cVar 0) (aCons (cC (.int 12)) (aNil)))) (cC (.int 0))) (aNil)))) (aNil)))))
  (sSeq (sIf (cTest (cOp fLt (cVar 4) (cC (.int 6)))) (sSeq (sSet 12 (cComp (wSeq (cVar 2)) [17] (gN 17) (cTest (cOp fIs (cCall 2 g_l_hindered (aCons (cVar 1) (aCons (cVar 17) (aNil)))) (cC .non))) (cVar 17)))
  (sSeq (sSet 3 (cIf (cAnd (cTest (cOp fNe (cVar 12) (cLst (aNil)))) (cTest (cOp fLt (cVar 4) (cC (.int 5))))) (cOp fIx (cVar 12) (cCall 2 g_l_pick (aCons (cVar 0) (aCons (cCB fLen (aCons (cVar 12) (aNil))) (aNil))))) (cVar 3)))
  (sRet (cTup (aCons (cC (.str "grant")) (aCons (cVar 5) (aCons (cVar 3) (aCons (cIf (cTest (cOp fGt (cCall 2 g_l_pick (aCons (cVar 0) (aCons (cC (.int 5)) (aNil)))) (cC (.int 0)))) (cVar 6) (cCB fMax (aCons (cC (.int 1)) (aCons (cDGet (cVar 1) (cC (.str "fence"))) (aNil))))) (aCons (cVar 7) (aNil)))))))))) (sNil))
  (sSeq (sSet 8 (cCB fSorted (aCons (cCB fList (aCons (cDGet (cVar 1) (cC (.str "holds"))) (aNil))) (aNil))))
  (sSeq (sIf (cAnd (cTest (cOp fLt (cVar 4) (cC (.int 10)))) (cTest (cOp fNe (cVar 8) (cLst (aNil))))) (sSeq (sSet 3 (cOp fIx (cVar 8) (cCall 2 g_l_pick (aCons (cVar 0) (aCons (cCB fLen (aCons (cVar 8) (aNil))) (aNil))))))
  (sSeq (sSet 13 (cDGet (cDGet (cVar 1) (cC (.str "holds"))) (cVar 3)))
  (sSeq (sIf (cTest (cOp fEq (cVar 4) (cC (.int 9)))) (sRet (cTup (aCons (cC (.str "free")) (aCons (cVar 5) (aCons (cVar 3) (aCons (cCB fMax (aCons (cC (.int 1)) (aCons (cOp fAdd (cOp fIx (cVar 13) (cC (.int 0))) (cOp fIx (cLst (aCons (cC (.int 0)) (aCons (cC (.int 0)) (aCons (cC (.int 0)) (aCons (cC (.int 1)) (aCons (cOp fSub (cC (.int 0)) (cC (.int 1))) (aNil))))))) (cCall 2 g_l_pick (aCons (cVar 0) (aCons (cC (.int 5)) (aNil)))))) (aNil)))) (aNil))))))) (sNil))
  (sSeq (sSet 14 (cOp fIx (cLst (aCons (cTup (aCons (cC (.str "failed")) (aNil))) (aCons (cTup (aCons (cC (.str "failed")) (aNil))) (aCons (cTup (aCons (cC (.str "done")) (aCons (cC (.int 5)) (aNil)))) (aCons (cTup (aCons (cC (.str "done")) (aCons (cC .non) (aNil)))) (aCons (cTup (aCons (cC (.str "done")) (aCons (cC (.str "a")) (aNil)))) (aNil))))))) (cCall 2 g_l_pick (aCons (cVar 0) (aCons (cC (.int 5)) (aNil))))))
  (sSeq (sPar [15, 16] (aCons (cOp fIx (cLst (aCons (cC (.int 0)) (aCons (cC (.int 0)) (aCons (cC (.int 0)) (aCons (cC (.int 0)) (aCons (cC (.int 1)) (aCons (cOp fSub (cC (.int 0)) (cC (.int 1))) (aNil)))))))) (cCall 2 g_l_pick (aCons (cVar 0) (aCons (cC (.int 6)) (aNil))))) (aCons (cOp fIx (cLst (aCons (cC (.int 0)) (aCons (cC (.int 0)) (aCons (cC (.int 0)) (aCons (cC (.int 0)) (aCons (cC (.int 1)) (aCons (cOp fSub (cC (.int 0)) (cC (.int 1))) (aNil)))))))) (cCall 2 g_l_pick (aCons (cVar 0) (aCons (cC (.int 6)) (aNil))))) (aNil))))
  (sRet (cTup (aCons (cC (.str "end")) (aCons (cCB fMax (aCons (cC (.int 0)) (aCons (cOp fAdd (cOp fIx (cVar 13) (cC (.int 1))) (cVar 15)) (aNil)))) (aCons (cVar 3) (aCons (cOp fIx (cVar 13) (cC (.int 0))) (aCons (cCB fMax (aCons (cC (.int 1)) (aCons (cOp fAdd (cOp fIx (cVar 13) (cC (.int 2))) (cVar 16)) (aNil)))) (aCons (cVar 14) (aNil)))))))))))))) (sNil))
  tailA))))))) := rfl
section
variable {lay : Bool} {s : St} {Q : D → Prop} {B : Nat}
theorem sl_last (ns : List Str) (n : Str) (Q : D → Prop) : fSl (.lst ((ns ++ [n]).map .str)) none (some (-1)) Q ↔ Q (.lst (ns.map .str)) := by
  have e : cutD ((ns ++ [n]).map D.str) none (some (-1)) = ns.map D.str := by
    unfold cutD
    have hl : ((ns ++ [n]).map D.str).length = ns.length + 1 := by simp
    rw [hl]
    have e1 : HT.sIx (ns.length + 1) 0 none = 0 := rfl
    have e2 : HT.sIx (ns.length + 1) (ns.length + 1) (some (-1)) = ns.length := by
      unfold HT.sIx
      simp only [show ((-1 : Int) < 0) by decide, if_true]
      omega
    rw [e1, e2]
    simp
  show Q (.lst (cutD _ _ _)) ↔ _
  rw [e]
theorem p_tailB (h : Shw s) (q : ∀ l, LtSm B l → LtOk l → Q (letD l)) {sl : List (Option D)} {ns : List Str} {n0 : Str} {ep : Int} (hns : ns = s.book.jobs.map Job.name ++ [(("zz" : Str))]) (hw : ∀ n ∈ ns, n ∈ WORDS) (h0 : sl[0]? = some (some .src)) (h1 : sl[1]? = some (some (stD lay s))) (h2 : sl[2]? = some (some (.lst (ns.map .str)))) (h3 : sl[3]? = some (some (.str n0))) (h5 : sl[5]? = some (some (.int ep))) (hl : sl.length = 18) (w0 : n0 ∈ WORDS) (hep : ep.natAbs ≤ B + 3) : tailB ⟨sl, none⟩ (fun _ => Q .non) Q := by
  have hi := h.toInv
  have hlj := hi.bk.lj
  unfold tailB
  simp only [x_seq, x_set, x_cb, x_acons, x_anil, x_var, h2, x_exo2, x_listL, x_put]
  have g0 : (sl.set 9 (some (.lst (ns.map .str))))[0]? = some (some .src) := by rw [List.getElem?_set_ne (by decide)]; exact h0
  have g1 : (sl.set 9 (some (.lst (ns.map .str))))[1]? = some (some (stD lay s)) := by rw [List.getElem?_set_ne (by decide)]; exact h1
  have g2 : (sl.set 9 (some (.lst (ns.map .str))))[2]? = some (some (.lst (ns.map .str))) := by rw [List.getElem?_set_ne (by decide)]; exact h2
  have g3 : (sl.set 9 (some (.lst (ns.map .str))))[3]? = some (some (.str n0)) := by rw [List.getElem?_set_ne (by decide)]; exact h3
  have g5 : (sl.set 9 (some (.lst (ns.map .str))))[5]? = some (some (.int ep)) := by rw [List.getElem?_set_ne (by decide)]; exact h5
  have g9 : (sl.set 9 (some (.lst (ns.map .str))))[9]? = some (some (.lst (ns.map .str))) := by simp [hl]
  have gl : (sl.set 9 (some (.lst (ns.map .str)))).length = 18 := by simp [hl]
  generalize (sl.set 9 (some (.lst (ns.map .str)))) = s1 at g0 g1 g2 g3 g5 g9 gl
  simp only [x_for, x_tupI, x_op, x_dget, x_var, g1, x_exo2, x_c, g_book, b_1]
  have loop : ∀ (js : List Job) (sl : List (Option D)) (ws : List Str) (K : Env → Prop), (∀ j ∈ js, j ∈ s.book.jobs) → sl[0]? = some (some .src) → sl[1]? = some (some (stD lay s)) → sl[2]? = some (some (.lst (ns.map .str))) → sl[3]? = some (some (.str n0)) → sl[5]? = some (some (.int ep)) → sl[9]? = some (some (.lst (ws.map .str))) → sl.length = 18 → (∀ w ∈ ws, w ∈ WORDS) → 0 < ws.length → ws.length + 8 * js.length ≤ 1000 →
      (∀ (sl : List (Option D)) (ws : List Str), sl[0]? = some (some .src) → sl[1]? = some (some (stD lay s)) → sl[2]? = some (some (.lst (ns.map .str))) → sl[3]? = some (some (.str n0)) → sl[5]? = some (some (.int ep)) → sl[9]? = some (some (.lst (ws.map .str))) → sl.length = 18 → (∀ w ∈ ws, w ∈ WORDS) → 0 < ws.length → ws.length ≤ 1000 → K ⟨sl, none⟩) →
      forW (gN 10) (sSet 9 (cOp fAdd (cVar 9) (cCB fList (aCons (cOp fIx (cVar 10) (cC (.int 2))) aNil)))) (js.map jobD) ⟨sl, none⟩ K Q := by
    intro js
    induction js with
    | nil => intro sl ws K _ a0 a1 a2 a3 a5 a9 al aw ap ah k; exact k sl ws a0 a1 a2 a3 a5 a9 al aw ap (by simpa using ah)
    | cons j js ih =>
      intro sl ws K hj a0 a1 a2 a3 a5 a9 al aw ap ah k
      have hj1 := hj j List.mem_cons_self
      have hln := hi.bk.ln j hj1
      simp only [List.length_cons] at ah
      rw [List.map_cons, x_fW1]
      have b9 : (sl.set 10 (some (jobD j)))[9]? = some (some (.lst (ws.map .str))) := by rw [List.getElem?_set_ne (by decide)]; exact a9
      have b10 : (sl.set 10 (some (jobD j)))[10]? = some (some (jobD j)) := by simp [al]
      simp only [x_gN, x_put, x_set, x_op, x_var, b9, b10, x_exo2, x_cb, x_acons, x_anil, x_c, j_2, x_listT, x_addL]
      refine ⟨by simp; omega, ?_⟩
      rw [← List.map_append]
      refine ih _ (ws ++ j.needs) K (fun x hx => hj x (List.mem_cons_of_mem _ hx)) ?_ ?_ ?_ ?_ ?_ ?_ ?_ ?_ ?_ ?_ k
      · rw [List.getElem?_set_ne (by decide), List.getElem?_set_ne (by decide)]; exact a0
      · rw [List.getElem?_set_ne (by decide), List.getElem?_set_ne (by decide)]; exact a1
      · rw [List.getElem?_set_ne (by decide), List.getElem?_set_ne (by decide)]; exact a2
      · rw [List.getElem?_set_ne (by decide), List.getElem?_set_ne (by decide)]; exact a3
      · rw [List.getElem?_set_ne (by decide), List.getElem?_set_ne (by decide)]; exact a5
      · simp [al]
      · simp [al]
      · intro w hw
        rcases List.mem_append.mp hw with z | z
        · exact aw w z
        · exact h.sb.nd j hj1 w z
      · simp; omega
      · simp; omega
  have hnl : ns.length = s.book.jobs.length + 1 := by rw [hns]; simp
  refine loop s.book.jobs s1 ns _ (fun _ h => h) g0 g1 g2 g3 g5 g9 gl hw (by omega) (by omega) fun sl ws a0 a1 a2 a3 a5 a9 al aw ap ah => ?_
  simp only [x_comp, x_seqI, x_sl, x_var, a2, x_exo2, x_onone, x_osome, x_un, x_c, x_neg, x_exi]
  rw [hns, sl_last]
  show compW _ _ _ _ ((s.book.jobs.map Job.name).map D.str) _ _
  rw [x_wipe1 _ _ rfl]
  refine comp_to D.str (fun n => if (needS s n).isSome = true then some (.str n) else none) _ _ _ (fun n hn P hP => ?_) (by simp; omega) ?_
  · obtain ⟨j, hj, rfl⟩ := List.mem_map.mp hn
    have c1 : ((sl.set 17 none).set 17 (some (D.str j.name)))[1]? = some (some (stD lay s)) := by rw [List.getElem?_set_ne (by decide), List.getElem?_set_ne (by decide)]; exact a1
    have c17 : ((sl.set 17 none).set 17 (some (D.str j.name)))[17]? = some (some (.str j.name)) := by simp [al]
    simp only [x_gN, x_put, x_test, x_op, x_call, x_acons, x_anil, x_var, c1, c17, x_exo2, List.length_cons, List.length_nil, x_c]
    refine ⟨by decide, p_lbarring hi h.named (jobOf_self hj) ?_⟩
    rw [x_isnot, isB_bl, x_isnS]
    cases hn : needS s j.name with
    | none => rw [hn] at hP; simpa using hP
    | some n => rw [hn] at hP; simpa using hP
  rw [fm_if, List.nil_append]
  have hbs : ∀ n ∈ (s.book.jobs.map Job.name).filter (fun n => (needS s n).isSome), n ∈ s.book.jobs.map Job.name ∧ (needS s n).isSome = true := fun n hn => List.mem_filter.mp hn
  have hble := List.length_filter_le (fun n => (needS s n).isSome) (s.book.jobs.map Job.name)
  generalize (s.book.jobs.map Job.name).filter (fun n => (needS s n).isSome) = bs at hbs hble
  have hbw : ∀ n ∈ bs, n ∈ WORDS := fun n hn => by
    obtain ⟨j, hj, e⟩ := List.mem_map.mp (hbs n hn).1
    rw [← e]; exact h.sb.nm j hj
  have e0 : (sl.set 11 (some (.lst (bs.map D.str))))[0]? = some (some .src) := by rw [List.getElem?_set_ne (by decide)]; exact a0
  have e1 : (sl.set 11 (some (.lst (bs.map D.str))))[1]? = some (some (stD lay s)) := by rw [List.getElem?_set_ne (by decide)]; exact a1
  have e3 : (sl.set 11 (some (.lst (bs.map D.str))))[3]? = some (some (.str n0)) := by rw [List.getElem?_set_ne (by decide)]; exact a3
  have e5 : (sl.set 11 (some (.lst (bs.map D.str))))[5]? = some (some (.int ep)) := by rw [List.getElem?_set_ne (by decide)]; exact a5
  have e9 : (sl.set 11 (some (.lst (bs.map D.str))))[9]? = some (some (.lst (ws.map .str))) := by rw [List.getElem?_set_ne (by decide)]; exact a9
  have e11 : (sl.set 11 (some (.lst (bs.map D.str))))[11]? = some (some (.lst (bs.map D.str))) := by simp [al]
  have el : (sl.set 11 (some (.lst (bs.map D.str)))).length = 18 := by simp [al]
  rw [x_put]
  generalize (sl.set 11 (some (.lst (bs.map D.str)))) = s2 at e0 e1 e3 e5 e9 e11 el
  have fin : sRet (cTup (aCons (cC (.str "bar")) (aCons (cVar 5) (aCons (cVar 3) (aCons (cOp fIx (cVar 9) (cCall 2 g_l_pick (aCons (cVar 0) (aCons (cCB fLen (aCons (cVar 9) (aNil))) (aNil))))) (aNil)))))) ⟨s2, none⟩ (fun _ => Q .non) Q := by
    simp only [x_ret, x_tup, x_acons, x_anil, x_c, x_var, e0, e3, e5, e9, x_exo2, x_op, x_call, x_cb, x_lenL, List.length_cons, List.length_nil, true_and]
    refine pick_ix rfl (by simpa using ap) (by simp; omega) fun d hd => ?_
    obtain ⟨n, hn, rfl⟩ := List.mem_map.mp hd
    exact ⟨by decide, q (.bar ep n0 n) ⟨hep, w0, aw n hn⟩ trivial⟩
  have hs : ∀ d ∈ bs.map D.str, atom d = true := okStrs fun n hn => words_ok n (hbw n hn)
  simp only [x_if, x_and, x_test, x_op, x_var, e0, e11, x_exo2, x_lst, x_anil, List.length_nil, Nat.zero_le, true_and, x_call, x_acons, x_c, List.length_cons]
  rw [x_neNilL (sh_lst hs), isB_bl]
  cases bs with
  | nil => exact fin
  | cons b0 bs =>
    simp only [List.map_cons, List.isEmpty_cons, Bool.not_false, if_true]
    rw [x_pick]
    refine ⟨by decide, fun r ra rb => ?_⟩
    rw [x_gt, isB_bl]
    split
    · simp only [x_seq, x_set, x_op, x_var, e0, e11, x_exo2, x_call, x_acons, x_anil, x_cb, x_lenL, List.length_cons, List.length_nil]
      refine ⟨by decide, ?_⟩
      refine pick_ix (ds := D.str b0 :: bs.map D.str) (by simp) (by simp) (by simp at hble ⊢; omega) fun d hd => ?_
      have : ∃ n ∈ b0 :: bs, D.str n = d := List.mem_map.mp hd
      obtain ⟨n, hn, rfl⟩ := this
      have f1 : (s2.set 3 (some (D.str n)))[1]? = some (some (stD lay s)) := by rw [List.getElem?_set_ne (by decide)]; exact e1
      have f5 : (s2.set 3 (some (D.str n)))[5]? = some (some (.int ep)) := by rw [List.getElem?_set_ne (by decide)]; exact e5
      have f3 : (s2.set 3 (some (D.str n)))[3]? = some (some (.str n)) := by simp [el]
      simp only [x_put, x_ret, x_tup, x_acons, x_anil, x_c, x_var, f1, f3, f5, x_exo2, x_call, List.length_cons, List.length_nil]
      obtain ⟨j, hj, ej⟩ := List.mem_map.mp (hbs n hn).1
      obtain ⟨nn, en⟩ := Option.isSome_iff_exists.mp (hbs n hn).2
      refine ⟨by decide, p_lbarring hi h.named (by rw [← ej]; exact jobOf_self hj) ?_⟩
      rw [en]
      have hnw : nn ∈ WORDS := by
        have := en
        unfold needS at this
        cases ejj : jobOf s.book n with
        | none => rw [ejj] at this; cases this
        | some job =>
          rw [ejj] at this
          simp only [] at this
          split at this
          · split at this
            · rename_i n' ns' eh
              split at this
              · cases this
                exact h.sb.nd job (jobOf_mem ejj).1 _ (hind_in (by rw [eh]; exact List.mem_cons_self))
              · cases this
            · cases this
          · cases this
      exact ⟨by decide, q (.bar ep n nn) ⟨hep, hbw n hn, hnw⟩ trivial⟩
    · exact fin
theorem p_tailA (h : Shw s) (q : ∀ l, LtSm B l → LtOk l → Q (letD l)) {sl : List (Option D)} {ns : List Str} {n0 : Str} {ep road : Int} (hns : ns = s.book.jobs.map Job.name ++ [(("zz" : Str))]) (hw : ∀ n ∈ ns, n ∈ WORDS) (h0 : sl[0]? = some (some .src)) (h1 : sl[1]? = some (some (stD lay s))) (h2 : sl[2]? = some (some (.lst (ns.map .str)))) (h3 : sl[3]? = some (some (.str n0))) (h4 : sl[4]? = some (some (.int road))) (h5 : sl[5]? = some (some (.int ep))) (hl : sl.length = 18) (w0 : n0 ∈ WORDS) (hep : ep.natAbs ≤ B + 3) : tailA ⟨sl, none⟩ (fun _ => Q .non) Q := by
  unfold tailA
  simp only [x_seq, x_if, x_test, x_op, x_var, h4, h5, x_exo2, x_c, x_eqI, isB_bl, decide_eq_true_eq, x_ret, x_tup, x_acons, x_anil, x_nil]
  split
  · exact ⟨by simp, q (.ask ep) hep trivial⟩
  · exact p_tailB h q hns hw h0 h1 h2 h3 h5 hl w0 hep
theorem p_letter (h : Shw s) (sm : Small B s) (hB : B ≤ 10 ^ 5) (q : ∀ l, LtSm B l → LtOk l → Q (letD l)) : g_l_draw_letter [.src, stD lay s] Q := by
  have hi := h.toInv
  have hlj := hi.bk.lj
  have he := sm.ep
  have hf := sm.fe
  have zz : (("zz" : Str)) ∈ WORDS := by decide +kernel
  unfold g_l_draw_letter
  rw [letter_is]
  simp only [x_seq, x_set, x_op, x_comp, x_var, x_env, List.map_cons, List.map_nil, List.length_cons, List.length_nil, List.cons_append, List.nil_append, x_wipe1, x_tupI, x_dget, x_c, List.getElem?_cons_succ, List.getElem?_cons_zero, x_exo2, g_book, b_1, x_lst, x_acons, x_anil]
  simp [x_wipe1]
  rw [comp_fm jobD (fun j => some (.str j.name)) _ _ _ (fun j _ P => by simp [x_var, x_put]) (by simp; omega), fm_some, List.nil_append]
  have en : (s.book.jobs.map fun j => D.str j.name) ++ [D.str "zz"] = (s.book.jobs.map Job.name ++ [(("zz" : Str))]).map D.str := by rw [List.map_append, List.map_map]; rfl
  rw [en]
  have hw : ∀ n ∈ s.book.jobs.map Job.name ++ [(("zz" : Str))], n ∈ WORDS := fun n hn => by
    rcases List.mem_append.mp hn with z | z
    · obtain ⟨j, hj, rfl⟩ := List.mem_map.mp z
      exact h.sb.nm j hj
    · rw [List.mem_singleton.mp z]; exact zz
  refine ⟨by simp; omega, ?_⟩
  have hjob : ∀ n ∈ s.book.jobs.map Job.name ++ [(("zz" : Str))], n ∈ WORDS := hw
  have hlen : (s.book.jobs.map Job.name ++ [(("zz" : Str))]).length = s.book.jobs.length + 1 := by simp
  have edrop : (s.book.jobs.map Job.name ++ [(("zz" : Str))]).dropLast = s.book.jobs.map Job.name := List.dropLast_concat
  generalize hns : s.book.jobs.map Job.name ++ [(("zz" : Str))] = ns at hw hlen edrop
  simp only [x_put, x_var, List.set_cons_succ, List.set_cons_zero, List.getElem?_cons_succ, List.getElem?_cons_zero, x_exo2]
  rw [x_lenL]
  have hpos : 0 < (ns.map D.str).length := by simp; omega
  refine pick_ix rfl hpos (by simp; omega) fun d hd => ?_
  obtain ⟨n0, hn0, rfl⟩ := List.mem_map.mp hd
  have w0 := hw n0 hn0
  rw [x_pick]
  refine ⟨by decide, fun road a1 b1 => ?_⟩
  simp only [x_put, x_var, List.set_cons_succ, List.set_cons_zero, List.getElem?_cons_succ, List.getElem?_cons_zero, x_exo2, g_epoch, g_fence, x_add]
  rw [x_pick]
  refine ⟨by decide, fun r2 a2 b2 => ?_⟩
  rw [x_add, x_pick]
  refine ⟨by decide, fun r3 a3 b3 => ?_⟩
  simp only [x_put, x_var, List.set_cons_succ, List.set_cons_zero, List.getElem?_cons_succ, List.getElem?_cons_zero, x_exo2, x_eqI, isB_bl, decide_eq_true_eq]
  by_cases c0 : road = 0
  · rw [if_pos c0, x_pick]
    refine ⟨by decide, fun r4 a4 b4 => ?_⟩
    simp only [x_add, x_sub, x_max]
    exact q (.take _) (mx_le (by omega) (by omega)) trivial
  rw [if_neg c0, x_pick]
  refine ⟨by decide, fun r5 a5 b5 => ?_⟩
  simp only [x_eqI, x_intB, x_sub]
  rw [x_pick]
  refine ⟨by decide, fun r6 a6 b6 => ?_⟩
  simp only [x_eqI, x_intB, x_add, x_max]
  have hep : ∀ x : Int, x = (if s.epoch - (if decide (r5 = 0) = true then 1 else 0) + (if decide (r6 = 0) = true then 1 else 0) > 1 then s.epoch - (if decide (r5 = 0) = true then 1 else 0) + (if decide (r6 = 0) = true then 1 else 0) else 1) → x.natAbs ≤ B + 3 := by
    intro x e
    rw [e]
    exact mx_le (by omega) (by split <;> split <;> omega)
  generalize hgep : (if s.epoch - (if decide (r5 = 0) = true then 1 else 0) + (if decide (r6 = 0) = true then 1 else 0) > 1 then s.epoch - (if decide (r5 = 0) = true then 1 else 0) + (if decide (r6 = 0) = true then 1 else 0) else 1) = ep at hep
  have hep := hep ep rfl
  simp only [x_put, x_var, List.set_cons_succ, List.set_cons_zero, List.getElem?_cons_succ, List.getElem?_cons_zero, x_exo2, x_lt, isB_bl, decide_eq_true_eq]
  by_cases c1 : road < 6
  · rw [if_pos c1, x_wipe1 _ _ rfl]
    have gfin : ∀ n ∈ WORDS, g_l_pick [.src, .int 5] fun x => fGt x (.int 0) fun d => isB d fun x => if x = true then Q (.tup [.str "grant", .int ep, .str n, .int (s.fence + 1 + r2), .int r3]) else Q (.tup [.str "grant", .int ep, .str n, .int (if s.fence > 1 then s.fence else 1), .int r3]) := fun n hn => by
      rw [x_pick]
      refine ⟨by decide, fun r a b => ?_⟩
      rw [x_gt, isB_bl]
      split
      · exact q (.grant ep n (s.fence + 1 + r2) r3) ⟨hep, hn, by omega, by omega⟩ trivial
      · exact q (.grant ep n _ r3) ⟨hep, hn, mx_le (by omega) (by omega), by omega⟩ trivial
    refine comp_to D.str (fun n => if isN (barsD s n) = true then some (.str n) else none) _ _ _ (fun n hn P hP => ?_) (by simp; omega) ?_
    · simp only [x_gN, x_put, List.set_cons_succ, List.set_cons_zero, x_test, x_op, x_call, x_acons, x_anil, x_var, List.getElem?_cons_succ, List.getElem?_cons_zero, x_exo2, List.length_cons, List.length_nil, x_c]
      refine ⟨by decide, p_lhind hi h.named ?_⟩
      rw [x_is, isB_bl]
      by_cases c : isN (barsD s n) = true
      · rw [if_pos c] at hP ⊢; exact hP
      · rw [if_neg c] at hP ⊢; exact hP
    rw [fm_if, List.nil_append]
    have hsub : ∀ n ∈ ns.filter (fun n => isN (barsD s n)), n ∈ WORDS := fun n hn => hw n (List.mem_filter.mp hn).1
    have hle := List.length_filter_le (fun n => isN (barsD s n)) ns
    generalize ns.filter (fun n => isN (barsD s n)) = rs at hsub hle
    have hs : ∀ d ∈ rs.map D.str, atom d = true := okStrs fun n hn => words_ok n (hsub n hn)
    change fNe (.lst (rs.map D.str)) _ _
    rw [x_neNilL (sh_lst hs), isB_bl]
    cases rs with
    | nil => exact gfin n0 w0
    | cons r0 rs =>
      simp only [List.map_cons, List.isEmpty_cons, Bool.not_false, if_true]
      split
      · rw [x_lenL]
        refine pick_ix rfl (by simp) (by simp at hle ⊢; omega) fun d hd => ?_
        have : ∃ n ∈ r0 :: rs, D.str n = d := List.mem_map.mp hd
        obtain ⟨n, hn, rfl⟩ := this
        exact gfin n (hsub n hn)
      · exact gfin n0 w0
  rw [if_neg c1]
  have hk8 := hi.hl
  rw [g_holds]
  change fList [.dct (s.holds.map fun p => (p.1, holdD p.2))] _
  rw [x_listD, List.map_map]
  refine .inr ⟨fun d hd => ?_, by simp; omega, ?_⟩
  · obtain ⟨p, _, rfl⟩ := List.mem_map.mp hd; trivial
  have e : ((fun p : Str × D => D.str p.1) ∘ fun p : Str × Hold => (p.1, holdD p.2)) = fun p => D.str p.1 := rfl
  rw [e, srt_keys]
  have tl : ∀ d, tailA ⟨[some .src, some (stD lay s), some (.lst (ns.map .str)), some (.str n0), some (.int road), some (.int ep), some (.int (s.fence + 1 + r2)), some (.int r3), some d, none, none, none, none, none, none, none, none, none], none⟩ (fun _ => Q .non) Q := fun d => p_tailA h q hns.symm hw rfl rfl rfl rfl rfl rfl rfl w0 hep
  dsimp only
  by_cases c2 : road < 10
  · rw [if_pos c2]
    have hps : ∀ p ∈ srtP s.holds, p ∈ s.holds := fun p hp => (srtP_perm _).mem_iff.mp hp
    have hpl := (srtP_perm s.holds).length_eq
    generalize srtP s.holds = hs at hps hpl
    have hat : ∀ d ∈ hs.map (fun p => D.str p.1), atom d = true := fun d hd => by
      obtain ⟨p, hp, rfl⟩ := List.mem_map.mp hd
      exact words_ok _ (name_w h.sb (hi.held p (hps p hp)))
    rw [x_neNilL (sh_lst hat), isB_bl]
    cases hs with
    | nil => exact tl _
    | cons p0 hs =>
      simp only [List.map_cons, List.isEmpty_cons, Bool.not_false, if_true]
      rw [x_lenL]
      refine pick_ix rfl (by simp) (by simp at hpl ⊢; omega) fun d hd => ?_
      have : ∃ p ∈ p0 :: hs, D.str p.1 = d := List.mem_map.mp hd
      obtain ⟨p, hp, rfl⟩ := this
      have hp' := hps p hp
      have hw1 := name_w h.sb (hi.held p hp')
      have hx := (alk_some hi.hn).mpr (show (p.1, p.2) ∈ s.holds from hp')
      have hs1 := sm.ho p hp'
      have q1 := hs1.fe
      have q2 := hs1.ma
      have q3 := hs1.att
      rw [g_holds, get_holds]
      refine ⟨p.2, hx, ?_⟩
      have bent : ∀ d ∈ [D.int 0, D.int 0, D.int 0, D.int 0, D.int 1, D.int (-1)], ∃ i : Int, d = .int i ∧ i.natAbs ≤ 1 := fun d hd => by
        simp only [List.mem_cons, List.not_mem_nil, or_false] at hd
        rcases hd with rfl | rfl | rfl | rfl | rfl | rfl <;> exact ⟨_, rfl, by decide⟩
      by_cases c3 : road = 9
      · rw [if_pos c3, h_0]
        refine pick_ix (by simp) (by simp) (by simp) fun d hd => ?_
        obtain ⟨i, rfl, hi1⟩ := bent d (by
          simp only [List.mem_cons, List.not_mem_nil, or_false] at hd ⊢
          rcases hd with rfl | rfl | rfl | rfl | rfl <;> simp)
        rw [x_add, x_max]
        exact q (.free ep p.1 _) ⟨hep, hw1, mx_le (by omega) (by omega)⟩ trivial
      · rw [if_neg c3]
        refine pick_ix (by simp) (by simp) (by simp) fun d hd => ?_
        have ho : ∃ o : Option D, d = outcD o ∧ Sz 12 0 (o.getD .non) ∧ (∀ v, o = some v → atom v = true) := by
          simp only [List.mem_cons, List.not_mem_nil, or_false] at hd
          rcases hd with rfl | rfl | rfl | rfl | rfl
          · exact ⟨none, rfl, sz_non, fun v e => nomatch e⟩
          · exact ⟨none, rfl, sz_non, fun v e => nomatch e⟩
          · exact ⟨some (.int 5), rfl, sz_int (by decide), fun v e => by cases e; rfl⟩
          · exact ⟨some .non, rfl, sz_non, fun v e => by cases e; rfl⟩
          · exact ⟨some (.str "a"), rfl, sz_str (by decide +kernel), fun v e => by cases e; exact words_ok _ (by decide +kernel)⟩
        obtain ⟨o, rfl, so, ao⟩ := ho
        refine pick_ix (by simp) (by simp) (by simp) fun d hd => ?_
        obtain ⟨i1, rfl, hi1⟩ := bent d hd
        refine pick_ix (by simp) (by simp) (by simp) fun d hd => ?_
        obtain ⟨i2, rfl, hi2⟩ := bent d hd
        rw [h_1, x_add, x_max, h_0, h_2, x_add, x_max]
        refine q (.fin _ p.1 p.2.fence _ o) ⟨mx_le (by omega) (by omega), hw1, by omega, mx_le (by omega) (by omega), so⟩ ?_
        cases o with
        | none => trivial
        | some v => exact ao v rfl
  · rw [if_neg c2]
    exact tl _
end
end E64
/-! the letters led -/
namespace E64
open PySem PySem.Spec PyProof.Rows L2
section
variable {lay : Bool} {s : St} {Q : D → Prop} {B : Nat}
theorem p_led (h : Shw s) (sm : Small B s) (hB : B ≤ 10 ^ 5) (turn : Int) (q : ∀ l, LtSm B l → LtOk l → Q (letD l)) : g_l_led_letter [.src, stD lay s, .int turn] Q := by
  have hi := h.toInv
  have hlj := hi.bk.lj
  have he := sm.ep
  have hf := sm.fe
  have hk8 := hi.hl
  unfold g_l_led_letter c_l_led_letter
  have ee : env0 N_l_led_letter [.src, stD lay s, .int turn] = ⟨[some .src, some (stD lay s), some (.int turn), none, none, none, none], none⟩ := rfl
  rw [ee]
  simp only [x_seq, x_par, x_acons, x_comp, x_tupI, x_op, x_dget, x_var, List.length_cons, List.length_nil, x_c, List.getElem?_cons_succ, List.getElem?_cons_zero, x_exo2, g_book, b_1, x_anil, x_cb]
  rw [x_wipe1 _ _ rfl]
  refine comp_to jobD (fun j => if isN (barsD s j.name) = true then some (.str j.name) else none) _ _ _ (fun j hj P hP => ?_) (by simp; omega) ?_
  · simp [x_put, x_var]
    refine p_lhind hi h.named ?_
    by_cases c : isN (barsD s j.name) = true
    · rw [if_pos c] at hP ⊢; exact hP
    · rw [if_neg c] at hP ⊢; exact hP
  rw [fm_if, List.nil_append]
  have hsub : ∀ j ∈ s.book.jobs.filter (fun j => isN (barsD s j.name)), j ∈ s.book.jobs := fun n hn => (List.mem_filter.mp hn).1
  have hle := List.length_filter_le (fun j : Job => isN (barsD s j.name)) s.book.jobs
  generalize s.book.jobs.filter (fun j => isN (barsD s j.name)) = rs at hsub hle
  rw [g_holds]
  change fList [.dct (s.holds.map fun p => (p.1, holdD p.2))] _
  rw [x_listD, List.map_map]
  refine .inr ⟨fun d hd => ?_, by simp; omega, ?_⟩
  · obtain ⟨p, _, rfl⟩ := List.mem_map.mp hd; trivial
  have e : ((fun p : Str × D => D.str p.1) ∘ fun p : Str × Hold => (p.1, holdD p.2)) = fun p => D.str p.1 := rfl
  rw [e, srt_keys]
  have hps : ∀ p ∈ srtP s.holds, p ∈ s.holds := fun p hp => (srtP_perm _).mem_iff.mp hp
  have hpl := (srtP_perm s.holds).length_eq
  generalize srtP s.holds = hs at hps hpl
  have hat : ∀ d ∈ hs.map (fun p => D.str p.1), atom d = true := fun d hd => by
    obtain ⟨p, hp, rfl⟩ := List.mem_map.mp hd
    exact words_ok _ (name_w h.sb (hi.held p (hps p hp)))
  have hrt : ∀ d ∈ rs.map (fun j => D.str j.name), atom d = true := fun d hd => by
    obtain ⟨j, hj, rfl⟩ := List.mem_map.mp hd
    exact words_ok _ (h.sb.nm j (hsub j hj))
  refine ⟨trivial, ?_⟩
  have low : ∀ sl : List (Option D), sl[0]? = some (some .src) → sl[1]? = some (some (stD lay s)) → sRet (cCall 2 g_l_draw_letter (aCons (cVar 0) (aCons (cVar 1) (aNil)))) ⟨sl, none⟩ (fun _ => Q .non) Q := fun sl h0 h1 => by
    simp only [x_ret, x_call, x_acons, x_anil, x_var, h0, h1, x_exo2]
    exact ⟨rfl, p_letter h sm hB q⟩
  simp only [x_puts1, x_puts0, x_put, List.set_cons_succ, List.set_cons_zero]
  have mid : ∀ sl : List (Option D), sl[0]? = some (some .src) → sl[1]? = some (some (stD lay s)) → sl[2]? = some (some (.int turn)) → sl[4]? = some (some (.lst (hs.map fun p => .str p.1))) → sl.length = 7 → (sIf (cAnd (cTest (cOp fEq (cVar 2) (cC (.int 2)))) (cTest (cOp fNe (cVar 4) (cLst (aNil))))) (sSeq (sSet 5 (cDGet (cDGet (cVar 1) (cC (.str "holds"))) (cOp fIx (cVar 4) (cC (.int 0)))))
  (sRet (cTup (aCons (cC (.str "end")) (aCons (cOp fIx (cVar 5) (cC (.int 1))) (aCons (cOp fIx (cVar 4) (cC (.int 0))) (aCons (cOp fIx (cVar 5) (cC (.int 0))) (aCons (cOp fIx (cVar 5) (cC (.int 2))) (aCons (cOp fIx (cLst (aCons (cTup (aCons (cC (.str "done")) (aCons (cC (.int 5)) (aNil)))) (aCons (cTup (aCons (cC (.str "failed")) (aNil))) (aNil)))) (cCall 2 g_l_pick (aCons (cVar 0) (aCons (cC (.int 2)) (aNil))))) (aNil)))))))))) (sNil)) ⟨sl, none⟩ (fun e => sRet (cCall 2 g_l_draw_letter (aCons (cVar 0) (aCons (cVar 1) (aNil)))) e (fun _ => Q .non) Q) Q := fun sl h0 h1 h2 h4 hl => by
    rw [x_if, x_and]
    simp only [x_test, x_op, x_var, h2, h4, x_exo2, x_c, x_eqI, isB_bl, x_lst, x_anil, List.length_nil, Nat.zero_le, true_and]
    by_cases c : turn = 2
    · simp only [c, decide_true, if_true]
      rw [x_neNilL (sh_lst hat), isB_bl]
      cases hs with
      | nil => exact low sl h0 h1
      | cons p hs =>
        simp only [List.map_cons, List.isEmpty_cons, Bool.not_false, if_true]
        have hp' := hps p List.mem_cons_self
        have hw1 := name_w h.sb (hi.held p hp')
        have hx := (alk_some hi.hn).mpr (show (p.1, p.2) ∈ s.holds from hp')
        have hs1 := sm.ho p hp'
        have q1 := hs1.fe
        have q2 := hs1.ma
        have q3 := hs1.att
        simp only [List.map_cons] at h4
        have f0 : (sl.set 5 (some (holdD p.2)))[0]? = some (some .src) := by rw [List.getElem?_set_ne (by decide)]; exact h0
        have f4 : (sl.set 5 (some (holdD p.2)))[4]? = some (some (.lst (D.str p.1 :: hs.map fun p => D.str p.1))) := by rw [List.getElem?_set_ne (by decide)]; exact h4
        have f5 : (sl.set 5 (some (holdD p.2)))[5]? = some (some (holdD p.2)) := by simp [hl]
        simp only [x_seq, x_set, x_dget, x_var, h1, h4, x_exo2, x_c, g_holds, x_op, x_ixL, at_0, x_exo, get_holds]
        refine ⟨p.2, hx, ?_⟩
        simp only [x_put, x_ret, x_tup, x_acons, x_anil, x_c, x_op, x_var, f0, f4, f5, x_exo2, h_0, h_1, h_2, x_ixL, at_0, x_exo, x_lst, x_call, List.length_cons, List.length_nil]
        refine ⟨by decide, by decide, by decide, trivial, ?_⟩
        have := @pick_ix [.tup [.str "done", .int 5], .tup [.str "failed"]] 2 (fun d => 0 + 1 + 1 + 1 + 1 + 1 + 1 ≤ 100000 ∧ Q (.tup [.str "end", .int p.2.mach, .str p.1, .int p.2.fence, .int p.2.att, d])) rfl (by simp) (by simp) (fun d hd => by
          simp only [List.mem_cons, List.not_mem_nil, or_false] at hd
          rcases hd with rfl | rfl
          · exact ⟨by decide, q (.fin p.2.mach p.1 p.2.fence p.2.att (some (.int 5))) ⟨by omega, hw1, by omega, by omega, sz_int (by decide)⟩ rfl⟩
          · exact ⟨by decide, q (.fin p.2.mach p.1 p.2.fence p.2.att none) ⟨by omega, hw1, by omega, by omega, sz_non⟩ trivial⟩)
        simpa using this
    · simp only [c, decide_false, Bool.false_eq_true, if_false]
      exact low sl h0 h1
  rw [x_if, x_and]
  simp only [x_test, x_op, x_var, List.getElem?_cons_succ, List.getElem?_cons_zero, x_exo2, x_c, x_eqI, isB_bl, x_lst, x_anil, List.length_nil, Nat.zero_le, true_and]
  by_cases c : turn = 1
  · simp only [c, decide_true, if_true]
    rw [x_neNilL (sh_lst hrt), isB_bl]
    cases rs with
    | nil => exact mid _ rfl rfl (by rw [← c]; rfl) rfl rfl
    | cons r0 rs =>
      simp only [List.map_cons, List.isEmpty_cons, Bool.not_false, if_true, x_ret, x_tup, x_acons, x_anil, x_c, x_op, x_var, List.getElem?_cons_succ, List.getElem?_cons_zero, x_exo2, x_dget, g_epoch, g_fence, x_call, x_cb, x_lenL, List.length_cons, List.length_nil, x_add]
      refine ⟨trivial, pick_ix (by simp) (by simp) (by simp at hle ⊢; omega) fun d hd => ?_⟩
      have : ∃ j ∈ r0 :: rs, D.str j.name = d := List.mem_map.mp hd
      obtain ⟨j, hj, rfl⟩ := this
      refine ⟨trivial, ?_⟩
      rw [x_pick]
      exact ⟨by decide, fun r ra rb => ⟨by decide, q (.grant s.epoch j.name (s.fence + 1) r) ⟨by omega, h.sb.nm j (hsub j hj), by omega, by omega⟩ trivial⟩⟩
  · simp only [c, decide_false, Bool.false_eq_true, if_false]
    exact mid _ rfl rfl rfl rfl rfl
end
end E64
/-! the book drawn -/
namespace E64
open PySem PySem.Spec PyProof.Rows L2
def bodyB : CS := (sSeq (sSet 7 (cCB fTuple (aCons (cCB fSorted (aCons (cComp (wSeq (cSl (cVar 2) (oNone) (oSome (cVar 5)))) [17] (gN 17) (cTest (cOp fEq (cCall 2 g_l_pick (aCons (cVar 0) (aCons (cC (.int 3)) (aNil)))) (cC (.int 0)))) (cVar 17)) (aNil))) (aNil))))
  (sSeq (sSet 8 (cComp (wTup (cVar 3)) [15, 16] (gT [15, 16]) (cAnd (cTest (cOp fGt (cVar 16) (cC (.int 0)))) (cTest (cOp fEq (cCall 2 g_l_pick (aCons (cVar 0) (aCons (cC (.int 2)) (aNil)))) (cC (.int 0))))) (cTup (aCons (cVar 15) (aCons (cVar 16) (aNil))))))
  (sSeq (sSet 8 (cCB fTuple (aCons (cComp (wSeq (cVar 8)) [15, 16] (gT [15, 16]) (bYes) (cTup (aCons (cVar 15) (aCons (cOp fAdd (cC (.int 1)) (cCall 2 g_l_pick (aCons (cVar 0) (aCons (cVar 16) (aNil))))) (aNil))))) (aNil))))
  (sSeq (sSet 9 (cOp fIx (cLst (aCons (cC (.str "all")) (aCons (cC (.str "all")) (aCons (cC (.str "ended")) (aNil))))) (cCall 2 g_l_pick (aCons (cVar 0) (aCons (cC (.int 3)) (aNil))))))
  (sSeq (sSet 10 (cCall 3 g_l_draw_command (aCons (cVar 0) (aCons (cVar 7) (aCons (cC (.int 2)) (aNil))))))
  (sSeq (sSet 11 (cOp fIx (cLst (aCons (cC (.int 0)) (aCons (cC (.int 0)) (aCons (cC (.int 0)) (aCons (cC (.int 1)) (aCons (cC (.int 2)) (aCons (cC (.int 5)) (aNil)))))))) (cCall 2 g_l_pick (aCons (cVar 0) (aCons (cC (.int 6)) (aNil))))))
  (sSeq (sPar [12, 13, 14] (aCons (cOp fAdd (cC (.int 1)) (cCall 2 g_l_pick (aCons (cVar 0) (aCons (cC (.int 4)) (aNil))))) (aCons (cOp fAdd (cC (.int 1)) (cCall 2 g_l_pick (aCons (cVar 0) (aCons (cC (.int 3)) (aNil))))) (aCons (cOp fSub (cCall 2 g_l_pick (aCons (cVar 0) (aCons (cC (.int 7)) (aNil)))) (cC (.int 3))) (aNil)))))
  (sApp 4 (cTup (aCons (cVar 6) (aCons (cVar 9) (aCons (cVar 7) (aCons (cVar 10) (aCons (cVar 8) (aCons (cVar 12) (aCons (cVar 13) (aCons (cVar 11) (aCons (cVar 14) (aNil)))))))))))))))))))
theorem book_is : c_l_draw_book = sSeq (sSet 2 (cSl (cCall 2 g_l_any_order (aCons (cVar 0) (aCons (cLst (aCons (cC (.str "a")) (aCons (cC (.str "b")) (aCons (cC (.str "ca")) (aCons (cC (.str "d")) (aCons (cC (.str "eb")) (aCons (cC (.str "f")) (aCons (cC (.str "g")) (aCons (cC (.str "hab")) (aNil)))))))))) (aNil)))) (oNone) (oSome (cOp fAdd (cC (.int 1)) (cCall 2 g_l_pick (aCons (cVar 0) (aCons (cVar 1) (aNil))))))))
  (sSeq (sParO 3 4 (cCB fTuple (aCons (cComp (wSeq (cSl (cLst (aCons (cC (.str "x")) (aCons (cC (.str "y")) (aNil)))) (oNone) (oSome (cCall 2 g_l_pick (aCons (cVar 0) (aCons (cC (.int 3)) (aNil))))))) [15] (gN 15) (bYes) (cTup (aCons (cVar 15) (aCons (cCall 2 g_l_pick (aCons (cVar 0) (aCons (cC (.int 4)) (aNil)))) (aNil))))) (aNil))) (cLst (aNil)))
  (sSeq (sFor (wEnum (aCons (cVar 2) (aNil))) (gT [5, 6]) bodyB)
  (sRet (cTup (aCons (cVar 3) (aCons (cCB fTuple (aCons (cSortO 4) (aNil))) (aNil))))))) := rfl
theorem compI {α : Type} {g : CG} {ct : CB} {ce : C} {env : Env} (enc : α → D) (I : List α → List D → Prop) : ∀ (l : List α) (acc : List D) (Q : List D → Prop),
    (∀ x rest acc, I (x :: rest) acc → ∀ K : Option D → Prop, (I rest acc → K none) → (∀ y, I rest (acc ++ [y]) → K (some y)) → (g (enc x) env fun env1 => ct env1 fun b => if b = true then ce env1 fun y => K (some y) else K none)) →
    acc.length + l.length ≤ 100000 → I l acc → (∀ acc, I [] acc → Q acc) → compW g ct ce env (l.map enc) acc Q
  | [], acc, Q, _, _, i, q => q acc i
  | x :: l, acc, Q, h, hl, i, q => by
    rw [List.map_cons, x_cW1]
    simp only [List.length_cons] at hl
    exact h x l acc i (fun o => match o with
      | some y => acc.length < 100000 ∧ compW g ct ce env (l.map enc) (acc ++ [y]) Q
      | none => compW g ct ce env (l.map enc) acc Q) (fun i => compI enc I l acc Q h (by omega) i q) (fun y i => ⟨by omega, compI enc I l (acc ++ [y]) Q h (by simp; omega) i q⟩)
structure JobOk (nms : List Str) (th : List (Str × Int)) (j : Job) : Prop where
  nd : ∀ n ∈ j.needs, n ∈ nms
  ln : j.needs.length ≤ 8
  us : ∀ u ∈ j.uses, u.1 ∈ th.map (·.1) ∧ u.2.natAbs ≤ 10
  lu : j.uses.length ≤ 8
  tr : 1 ≤ j.tries ∧ j.tries ≤ 3
  st : j.start.natAbs ≤ 10
  cm : no9 j.cmd = true
structure ThOk (th : List (Str × Int)) : Prop where
  sub : (th.map (·.1)).Sublist [("x" : Str), "y"]
  val : ∀ p ∈ th, 0 ≤ p.2 ∧ p.2 ≤ 3
theorem sl_take (ds : List D) (k : Nat) (hk : k ≤ ds.length) (Q : D → Prop) : fSl (.lst ds) none (some (k : Int)) Q ↔ Q (.lst (ds.take k)) := by
  have e : cutD ds none (some (k : Int)) = ds.take k := by
    unfold cutD
    rw [HT.sIx_nat]
    have e1 : HT.sIx ds.length 0 none = 0 := rfl
    rw [e1, Nat.min_eq_left hk]
    simp
  show Q (.lst (cutD _ _ _)) ↔ _
  rw [e]
theorem wO1 (sl : List (Option D)) (o : D) : wipeE ⟨sl, some (4, o)⟩ [17] = ⟨sl.set 17 none, some (4, o)⟩ := by simp [wipeE]
theorem wO2 (sl : List (Option D)) (o : D) : wipeE ⟨sl, some (4, o)⟩ [15, 16] = ⟨(sl.set 16 none).set 15 none, some (4, o)⟩ := by simp [wipeE]
theorem srt_strs (l : List Str) : srtB lS (l.map D.str) = (srtB ltS l).map D.str := srtB_map (lt := ltS) (lt' := lS) (f := D.str) (fun _ _ => rfl) l
section
variable {Q : D → Prop}
theorem p_body {nms : List Str} {th : List (Str × Int)} (hn : nms.length ≤ 8) (ht : ThOk th) {a5 a6 a7 a8 a9 a10 a11 a12 a13 a14 : Option D} {k : Nat} {w : Str} {js : List Job} (hk : k < nms.length) (hjl : js.length < 1000) {K : Env → Prop}
    (q : ∀ (a5 a6 a7 a8 a9 a10 a11 a12 a13 a14 : Option D) (j : Job), j.name = w → JobOk nms th j → K ⟨[some .src, some (.int 5), some (.lst (nms.map .str)), some (.tup (th.map useD)), none, a5, a6, a7, a8, a9, a10, a11, a12, a13, a14, none, none, none], some (4, .lst ((js ++ [j]).map jobD))⟩) :
    gT [5, 6] (.prs [.int (k : Int), .str w]) ⟨[some .src, some (.int 5), some (.lst (nms.map .str)), some (.tup (th.map useD)), none, a5, a6, a7, a8, a9, a10, a11, a12, a13, a14, none, none, none], some (4, .lst (js.map jobD))⟩ fun env => bodyB env K Q := by
  have htl : th.length ≤ 2 := by have := ht.sub.length_le; simpa using this
  rw [x_gTp]
  refine ⟨rfl, ?_⟩
  simp only [x_puts1, x_puts0, x_putO, List.set_cons_succ, List.set_cons_zero, reduceIte, Nat.reduceEqDiff]
  unfold bodyB
  simp only [x_seq, x_set, x_cb, x_acons, x_anil, x_comp, x_seqI, x_sl, x_onone, x_osome, x_var, List.getElem?_cons_succ, List.getElem?_cons_zero, x_exo2, x_exi]
  rw [sl_take _ _ (by simp; omega), ← List.map_take]
  show compW _ _ _ _ ((nms.take k).map D.str) _ _
  rw [wO1]
  simp only [List.set_cons_succ, List.set_cons_zero]
  refine compI D.str (fun rest acc => ∃ ws : List Str, acc = ws.map D.str ∧ (ws ++ rest).Sublist (nms.take k)) _ _ _ (fun x rest acc hI Kk k1 k2 => ?_) (by simp; omega) ⟨[], rfl, List.Sublist.refl _⟩ fun acc hI => ?_
  · obtain ⟨ws, rfl, hs⟩ := hI
    simp only [x_gN, x_putO, List.set_cons_succ, List.set_cons_zero, reduceIte, Nat.reduceEqDiff, x_test, x_op, x_call, x_acons, x_anil, x_var, List.getElem?_cons_succ, List.getElem?_cons_zero, x_exo2, x_c, List.length_cons, List.length_nil]
    refine ⟨trivial, ?_⟩
    rw [x_pick]
    refine ⟨by decide, fun r ra rb => ?_⟩
    rw [x_eqI, isB_bl]
    split
    · exact k2 (.str x) ⟨ws ++ [x], by simp, by simpa using hs⟩
    · exact k1 ⟨ws, rfl, (List.Sublist.append (List.Sublist.refl ws) (List.sublist_cons_self x rest)).trans hs⟩
  obtain ⟨ws, rfl, hs⟩ := hI
  rw [List.append_nil] at hs
  have hwl : ws.length ≤ 8 := by have := hs.length_le; rw [List.length_take] at this; omega
  refine .inr ⟨fun d hd => ?_, by simp; omega, ?_⟩
  · obtain ⟨p, _, rfl⟩ := List.mem_map.mp hd; trivial
  rw [srt_strs]
  have hns : ∀ n ∈ srtB ltS ws, n ∈ nms := fun n hn => List.mem_of_mem_take (hs.subset ((srtB_perm ltS ws).mem_iff.mp hn))
  have hnl : (srtB ltS ws).length ≤ 8 := by rw [(srtB_perm ltS ws).length_eq]; exact hwl
  generalize srtB ltS ws = needs at hns hnl
  simp only [x_tupL, x_putO, List.set_cons_succ, List.set_cons_zero, reduceIte, Nat.reduceEqDiff, x_tupI, x_var, List.getElem?_cons_succ, List.getElem?_cons_zero, x_exo2, wO2]
  refine compI useD (fun rest acc => ∃ us : List (Str × Int), acc = us.map useD ∧ ((us ++ rest).map (·.1)).Sublist (th.map (·.1)) ∧ (∀ u ∈ us, 0 < u.2 ∧ u.2 ≤ 3) ∧ ∀ u ∈ rest, u.2 ≤ 3) _ _ _ (fun x rest acc hI Kk k1 k2 => ?_) (by simp; omega) ⟨[], rfl, List.Sublist.refl _, (fun u hu => nomatch hu), fun u hu => (ht.val u hu).2⟩ fun acc hI => ?_
  · obtain ⟨us, rfl, hs1, hs2, hs3⟩ := hI
    have skip : Kk none := k1 ⟨us, rfl, by
      refine List.Sublist.trans ?_ hs1
      rw [List.map_append, List.map_append]
      exact List.Sublist.append (List.Sublist.refl _) (by rw [List.map_cons]; exact List.sublist_cons_self _ _), hs2, fun u hu => hs3 u (List.mem_cons_of_mem _ hu)⟩
    simp only [useD, x_gT, List.length_cons, List.length_nil, true_and, x_puts1, x_puts0, x_putO, List.set_cons_succ, List.set_cons_zero, reduceIte, Nat.reduceEqDiff, x_and, x_test, x_op, x_call, x_acons, x_anil, x_var, List.getElem?_cons_succ, List.getElem?_cons_zero, x_exo2, x_c, x_gt, isB_bl]
    by_cases c : 0 < x.2
    · rw [if_pos (by simpa using c)]
      rw [x_pick]
      refine ⟨by decide, fun r ra rb => ?_⟩
      rw [x_eqI, isB_bl]
      split
      · simp only [x_tup, x_acons, x_anil, x_var, List.getElem?_cons_succ, List.getElem?_cons_zero, x_exo2]
        refine ⟨by simp, k2 _ ⟨us ++ [x], by simp [useD], by simpa using hs1, fun u hu => ?_, fun u hu => hs3 u (List.mem_cons_of_mem _ hu)⟩⟩
        rcases List.mem_append.mp hu with z | z
        · exact hs2 u z
        · rw [List.mem_singleton.mp z]; exact ⟨c, hs3 x List.mem_cons_self⟩
      · exact skip
    · rw [if_neg (by simpa using c)]
      simp only [Bool.false_eq_true, if_false]
      exact skip
  obtain ⟨us, rfl, hs1, hs2, _⟩ := hI
  rw [List.append_nil] at hs1
  have hul : us.length ≤ 2 := by have := hs1.length_le; simp only [List.length_map] at this; omega
  refine compI useD (fun rest acc => ∃ vs : List (Str × Int), acc = vs.map useD ∧ ((vs ++ rest).map (·.1)).Sublist (th.map (·.1)) ∧ (∀ u ∈ vs, u.2.natAbs ≤ 10) ∧ ∀ u ∈ rest, 0 < u.2 ∧ u.2 ≤ 3) _ _ _ (fun x rest acc hI Kk k1 k2 => ?_) (by simp; omega) ⟨[], rfl, hs1, (fun u hu => nomatch hu), hs2⟩ fun acc hI => ?_
  · obtain ⟨vs, rfl, ht1, ht2, ht3⟩ := hI
    have hx := ht3 x List.mem_cons_self
    simp only [useD, x_gT, List.length_cons, List.length_nil, true_and, x_puts1, x_puts0, x_putO, List.set_cons_succ, List.set_cons_zero, reduceIte, Nat.reduceEqDiff, x_yes, x_tup, x_op, x_call, x_acons, x_anil, x_var, List.getElem?_cons_succ, List.getElem?_cons_zero, x_exo2, x_c]
    rw [x_pick]
    refine ⟨by omega, fun r ra rb => ?_⟩
    rw [x_add]
    refine ⟨by decide, k2 _ ⟨vs ++ [(x.1, 1 + r)], by simp [useD], by simpa using ht1, fun u hu => ?_, fun u hu => ht3 u (List.mem_cons_of_mem _ hu)⟩⟩
    rcases List.mem_append.mp hu with z | z
    · exact ht2 u z
    · rw [List.mem_singleton.mp z]; show (1 + r).natAbs ≤ 10; omega
  obtain ⟨vs, rfl, ht1, ht2, _⟩ := hI
  rw [List.append_nil] at ht1
  have hvl : vs.length ≤ 2 := by have := ht1.length_le; simp only [List.length_map] at this; omega
  simp only [x_tupL, x_putO, List.set_cons_succ, List.set_cons_zero, reduceIte, Nat.reduceEqDiff, x_op, x_lst, x_acons, x_anil, x_c, x_call, x_var, List.getElem?_cons_succ, List.getElem?_cons_zero, x_exo2, List.length_cons, List.length_nil]
  refine ⟨by decide, trivial, pick_ix (by simp) (by simp) (by simp) fun d hd => ⟨trivial, ?_⟩⟩
  obtain ⟨mode, rfl⟩ : ∃ m : Str, d = .str m := by
    simp only [List.mem_cons, List.not_mem_nil, or_false] at hd
    rcases hd with rfl | rfl | rfl <;> exact ⟨_, rfl⟩
  refine ⟨⟨by decide, by simp; omega, no9L_of fun d hd => by obtain ⟨x, _, rfl⟩ := List.mem_map.mp hd; simp [no9]⟩, fun xs hxs => ⟨by decide, trivial, pick_ix (by simp) (by simp) (by simp) fun d hd => ?_⟩⟩
  obtain ⟨start, rfl, hst⟩ : ∃ i : Int, d = .int i ∧ i.natAbs ≤ 10 := by
    simp only [List.mem_cons, List.not_mem_nil, or_false] at hd
    rcases hd with rfl | rfl | rfl | rfl | rfl | rfl <;> exact ⟨_, rfl, by decide⟩
  simp only [x_par, x_op, x_c, x_call, x_acons, x_anil, x_var, List.getElem?_cons_succ, List.getElem?_cons_zero, x_exo2, List.length_cons, List.length_nil]
  refine ⟨trivial, ?_⟩
  rw [x_pick]
  refine ⟨by decide, fun r1 a1 b1 => ?_⟩
  rw [x_add]
  refine ⟨trivial, ?_⟩
  rw [x_pick]
  refine ⟨by decide, fun r2 a2 b2 => ?_⟩
  rw [x_add]
  refine ⟨trivial, ?_⟩
  rw [x_pick]
  refine ⟨by decide, fun r3 a3 b3 => ?_⟩
  rw [x_sub]
  refine ⟨trivial, ?_⟩
  simp only [x_puts1, x_puts0, x_putO, List.set_cons_succ, List.set_cons_zero, reduceIte, Nat.reduceEqDiff]
  refine ⟨_, rfl, ?_⟩
  simp only [x_tup, x_acons, x_anil, x_var, List.getElem?_cons_succ, List.getElem?_cons_zero, x_exo2, List.length_cons, List.length_nil]
  refine ⟨by decide, by simp; omega, ?_⟩
  have := q (some (.int k)) (some (.str w)) (some (.tup (needs.map .str))) (some (.tup (vs.map useD))) (some (.str mode)) (some (.tup xs)) (some (.int start)) (some (.int (1 + r1))) (some (.int (1 + r2))) (some (.int (r3 - 3))) ⟨w, mode, needs, .tup xs, vs, 1 + r1, 1 + r2, start, r3 - 3⟩ rfl ⟨hns, hnl, fun u hu => ⟨ht1.subset (List.mem_map.mpr ⟨u, hu, rfl⟩), ht2 u hu⟩, by show vs.length ≤ 8; omega, by show 1 ≤ 1 + r2 ∧ 1 + r2 ≤ 3; omega, hst, by show no9 (.tup xs) = true; simpa [no9] using hxs⟩
  rw [List.map_append] at this
  exact this
theorem p_loopB {nms : List Str} {th : List (Str × Int)} (hn : nms.length ≤ 8) (ht : ThOk th) {K : Env → Prop} : ∀ (ws : List Str) (k : Nat) (a5 a6 a7 a8 a9 a10 a11 a12 a13 a14 : Option D) (js : List Job), js.map Job.name ++ ws = nms → k = js.length → (∀ j ∈ js, JobOk nms th j) →
    (∀ (a5 a6 a7 a8 a9 a10 a11 a12 a13 a14 : Option D) (js : List Job), js.map Job.name = nms → (∀ j ∈ js, JobOk nms th j) → K ⟨[some .src, some (.int 5), some (.lst (nms.map .str)), some (.tup (th.map useD)), none, a5, a6, a7, a8, a9, a10, a11, a12, a13, a14, none, none, none], some (4, .lst (js.map jobD))⟩) →
    forW (gT [5, 6]) bodyB (enumD k (ws.map .str)) ⟨[some .src, some (.int 5), some (.lst (nms.map .str)), some (.tup (th.map useD)), none, a5, a6, a7, a8, a9, a10, a11, a12, a13, a14, none, none, none], some (4, .lst (js.map jobD))⟩ K Q
  | [], k, a5, a6, a7, a8, a9, a10, a11, a12, a13, a14, js, e, _, hj, q => q _ _ _ _ _ _ _ _ _ _ js (by simpa using e) hj
  | w :: ws, k, a5, a6, a7, a8, a9, a10, a11, a12, a13, a14, js, e, ek, hj, q => by
    have hlen := congrArg List.length e
    simp at hlen
    show forW (gT [5, 6]) bodyB (.prs [.int (k : Nat), .str w] :: enumD (k + 1) (ws.map .str)) _ _ _
    rw [x_fW1]
    refine p_body hn ht (by omega) (by omega) fun a5 a6 a7 a8 a9 a10 a11 a12 a13 a14 j ej oj => ?_
    refine p_loopB hn ht ws (k + 1) _ _ _ _ _ _ _ _ _ _ (js ++ [j]) (by simp [ej]; exact e) (by simp; omega) (fun x hx => ?_) q
    rcases List.mem_append.mp hx with z | z
    · exact hj x z
    · rw [List.mem_singleton.mp z]; exact oj
def NAMES : List Str := ["a", "b", "ca", "d", "eb", "f", "g", "hab"]
def unS : D → Str
  | .str x => x
  | _ => ⟨#[]⟩
theorem perm_strs {l : List Str} {es : List D} (h : es.Perm (l.map .str)) : ∃ ns : List Str, es = ns.map .str ∧ ns.Perm l := by
  refine ⟨es.map unS, ?_, ?_⟩
  · rw [List.map_map]
    have : es.map (D.str ∘ unS) = es.map id := List.map_congr_left fun d hd => by
      obtain ⟨x, _, rfl⟩ := List.mem_map.mp (h.mem_iff.mp hd)
      rfl
    rw [this, List.map_id]
  · have := h.map unS
    rw [List.map_map] at this
    have e : l.map (unS ∘ D.str) = l := by
      have : (unS ∘ D.str) = id := rfl
      rw [this, List.map_id]
    rw [e] at this
    exact this
theorem p_book (q : ∀ b, BookOk b → SmallB b → Q (bookD b)) : g_l_draw_book [.src, .int 5] Q := by
  unfold g_l_draw_book
  rw [book_is]
  have ee : env0 N_l_draw_book [.src, .int 5] = ⟨[some .src, some (.int 5), none, none, none, none, none, none, none, none, none, none, none, none, none, none, none, none], none⟩ := rfl
  rw [ee]
  simp only [x_seq, x_set, x_sl, x_call, x_acons, x_anil, x_lst, x_c, x_var, List.getElem?_cons_succ, List.getElem?_cons_zero, x_exo2, List.length_cons, List.length_nil, x_onone, x_osome, x_op]
  refine ⟨by decide, trivial, by simp, fun es hes => ⟨trivial, ?_⟩⟩
  obtain ⟨ns, rfl, hp⟩ := perm_strs (l := NAMES) hes
  have hnd : ns.Nodup := hp.nodup_iff.mpr (by decide +kernel)
  have hnw : ∀ n ∈ ns, n ∈ WORDS := fun n hn => (by decide +kernel : ∀ n ∈ NAMES, n ∈ WORDS) n (hp.mem_iff.mp hn)
  have hnl : ns.length = 8 := hp.length_eq
  rw [x_pick]
  refine ⟨by decide, fun r ra rb => ?_⟩
  rw [x_add]
  refine ⟨_, rfl, ?_⟩
  obtain ⟨k, ek⟩ : ∃ k : Nat, 1 + r = (k : Int) := ⟨(1 + r).toNat, by omega⟩
  rw [ek, sl_take _ _ (by simp; omega), ← List.map_take]
  have htl : (ns.take k).length ≤ 8 := by rw [List.length_take]; omega
  have htn : (ns.take k).Nodup := hnd.sublist (List.take_sublist _ _)
  have htw : ∀ n ∈ ns.take k, n ∈ WORDS := fun n hn => hnw n (List.mem_of_mem_take hn)
  generalize ns.take k = nms at htl htn htw
  simp only [x_put, List.set_cons_succ, List.set_cons_zero, sParO, x_cb, x_acons, x_anil, x_comp, x_seqI, x_sl, x_lst, x_c, x_onone, x_osome, x_call, x_var, List.getElem?_cons_succ, List.getElem?_cons_zero, x_exo2, List.length_cons, List.length_nil]
  refine ⟨by decide, trivial, ?_⟩
  rw [x_pick]
  refine ⟨by decide, fun r2 ra2 rb2 => ⟨_, rfl, ?_⟩⟩
  obtain ⟨k2, rfl⟩ : ∃ k2 : Nat, r2 = (k2 : Int) := ⟨r2.toNat, by omega⟩
  rw [sl_take _ _ (by simp; omega)]
  rw [show (List.take k2 [D.str "x", D.str "y"]) = ([(("x" : Str)), "y"].take k2).map D.str from (List.map_take (f := D.str) (l := [(("x" : Str)), "y"]) (i := k2)).symm]
  show compW _ _ _ _ (([(("x" : Str)), "y"].take k2).map D.str) _ _
  rw [x_wipe1 _ _ rfl]
  refine compI D.str (fun rest acc => ∃ us : List (Str × Int), acc = us.map useD ∧ (us.map (·.1) ++ rest).Sublist [(("x" : Str)), "y"] ∧ ∀ u ∈ us, 0 ≤ u.2 ∧ u.2 ≤ 3) _ _ _ (fun x rest acc hI Kk k1 k2 => ?_) (by simp; omega) ⟨[], rfl, List.take_sublist _ _, fun u hu => nomatch hu⟩ fun acc hI => ?_
  · obtain ⟨us, rfl, hs1, hs2⟩ := hI
    simp only [x_gN, x_put, List.set_cons_succ, List.set_cons_zero, x_yes, if_true, x_tup, x_call, x_acons, x_anil, x_var, List.getElem?_cons_succ, List.getElem?_cons_zero, x_exo2, x_c, List.length_cons, List.length_nil]
    refine ⟨trivial, ?_⟩
    rw [x_pick]
    refine ⟨by decide, fun r ra rb => ⟨by decide, k2 _ ⟨us ++ [(x, r)], by simp [useD], by simpa using hs1, fun u hu => ?_⟩⟩⟩
    rcases List.mem_append.mp hu with z | z
    · exact hs2 u z
    · rw [List.mem_singleton.mp z]; exact ⟨ra, by show r ≤ 3; omega⟩
  obtain ⟨th, rfl, hs1, hs2⟩ := hI
  rw [List.append_nil] at hs1
  have ht : ThOk th := ⟨hs1, hs2⟩
  refine ⟨by simp, by simp, by simp, ?_⟩
  simp only [List.set_cons_succ, List.set_cons_zero, Env.own, x_for, wEnum, x_acons, x_anil, x_var, List.getElem?_cons_succ, List.getElem?_cons_zero, x_exo2]
  refine p_loopB htl ht nms 0 none none none none none none none none none none [] rfl rfl (fun j hj => nomatch hj) fun a5 a6 a7 a8 a9 a10 a11 a12 a13 a14 js ejs hjs => ?_
  simp only [x_ret, x_tup, x_acons, x_anil, x_cb, x_var, List.getElem?_cons_succ, List.getElem?_cons_zero, x_exo2, List.length_cons, List.length_nil]
  have pj := srtB_perm (fun a b : Job => ltS a.name b.name) js
  refine ⟨_, rfl, .inr ⟨fun d hd => ?_, ?_, ?_⟩⟩
  · obtain ⟨p, _, rfl⟩ := List.mem_map.mp hd; trivial
  · rw [List.map_map]
    show (js.map Job.name).Nodup
    rw [ejs]; exact htn
  rw [srtB_map (lt := fun a b : Job => ltS a.name b.name) (lt' := lS) (f := jobD) (fun _ _ => rfl)]
  dsimp only
  rw [x_tupL]
  refine ⟨by decide, q ⟨th, srtB (fun a b : Job => ltS a.name b.name) js⟩ ?_ ?_⟩
  · have hlen : js.length ≤ 8 := by have := congrArg List.length ejs; simp at this; omega
    have hth : th.length ≤ 2 := by have := hs1.length_le; simpa using this
    refine ⟨?_, fun j hj n hn => ?_, hs1.nodup (by decide +kernel), fun j hj u hu => ((hjs j (pj.mem_iff.mp hj)).us u hu).1, by show (srtB _ js).length ≤ 8; rw [pj.length_eq]; exact hlen, fun j hj => (hjs j (pj.mem_iff.mp hj)).ln, fun j hj => (hjs j (pj.mem_iff.mp hj)).lu, by show th.length ≤ 8; omega, fun j hj => (hjs j (pj.mem_iff.mp hj)).tr⟩
    · refine (pj.map Job.name).nodup_iff.mpr ?_
      rw [ejs]; exact htn
    · have hm := (hjs j (pj.mem_iff.mp hj)).nd n hn
      rw [← ejs] at hm
      obtain ⟨j', hj', e⟩ := List.mem_map.mp hm
      rw [← e]
      exact jobOf_self (b := ⟨th, srtB (fun a b : Job => ltS a.name b.name) js⟩) (pj.mem_iff.mpr hj')
  · have xy : ∀ p ∈ th, p.1 ∈ WORDS := fun p hp => (by decide +kernel : ∀ n ∈ [(("x" : Str)), "y"], n ∈ WORDS) _ (hs1.subset (List.mem_map.mpr ⟨p, hp, rfl⟩))
    refine ⟨fun j hj => htw _ (by rw [← ejs]; exact List.mem_map.mpr ⟨j, pj.mem_iff.mp hj, rfl⟩), fun j hj n hn => htw _ ((hjs j (pj.mem_iff.mp hj)).nd n hn), fun j hj u hu => ?_, fun p hp => ⟨xy p hp, by have := hs2 p hp; omega⟩, fun j hj => (hjs j (pj.mem_iff.mp hj)).st, fun j hj => (hjs j (pj.mem_iff.mp hj)).cm⟩
    obtain ⟨h1, h2⟩ := (hjs j (pj.mem_iff.mp hj)).us u hu
    obtain ⟨p, hp, e⟩ := List.mem_map.mp h1
    exact ⟨by rw [← e]; exact xy p hp, h2⟩
end
end E64
/-! the frozen heap without the big dicts -/
namespace E64
open PySem PySem.Spec PyProof.Rows L2
def nineO : HO → Bool
  | .dK ws => ws.length == 9
  | _ => false
def cut (R : Hp) : Hp := fun a => match R a with
  | some o => if nineO o = true then none else some o
  | none => none
theorem cut_keep {R : Hp} {a : Addr} {o : HO} (h : R a = some o) (n : nineO o = false) : cut R a = some o := by
  unfold cut; rw [h]; simp [n]
theorem cut_le {R : Hp} {a : Addr} {o : HO} (h : cut R a = some o) : R a = some o := by
  unfold cut at h
  cases e : R a with
  | none => rw [e] at h; cases h
  | some u =>
    rw [e] at h
    simp only at h
    split at h
    · cases h
    · exact h
section
variable {K : PySem.W.Frag} {S : Sa} {R : Hp}
mutual
theorem Rep.cut : ∀ {v : V} {d : D}, Rep K S R v d → no9 d = true → Rep K S (cut R) v d
  | _, _, .non, _ => .non
  | _, _, .bl b, _ => .bl b
  | _, _, .int i, _ => .int i
  | _, _, .str x, _ => .str x
  | _, _, .src, _ => .src
  | _, _, .tup h r, n => .tup (h.elim fun o z => ⟨o, z.1, cut_keep z.2 rfl⟩) (RepL.cut r n)
  | _, _, .lst h r, n => .lst (cut_keep h rfl) (RepL.cut r n)
  | _, _, .prs h r, n => .prs (cut_keep h rfl) (RepL.cut r n)
  | _, _, .dct h r, n => by
    have n2 := n
    simp only [no9, Bool.and_eq_true, Bool.not_eq_true', beq_eq_false_iff_ne] at n2
    exact .dct (cut_keep h (by have := r.len; unfold nineO; simp; omega)) (RepK.cut r n2.2)
theorem RepL.cut : ∀ {vs : List V} {ds : List D}, RepL K S R vs ds → no9L ds = true → RepL K S (cut R) vs ds
  | _, _, .nil, _ => .nil
  | _, _, .cons a b, n => by
    simp only [no9L, Bool.and_eq_true] at n
    exact .cons (Rep.cut a n.1) (RepL.cut b n.2)
theorem RepK.cut : ∀ {ws : List (Key × V)} {kvs : List (Str × D)}, RepK K S R ws kvs → no9K kvs = true → RepK K S (cut R) ws kvs
  | _, _, .nil, _ => .nil
  | _, _, .cons a b, n => by
    simp only [no9K, Bool.and_eq_true] at n
    exact .cons (Rep.cut a n.1) (RepK.cut b n.2)
end
theorem Wd.cut {H : Hp} (w : Wd S R H) : Wd S (E64.cut R) H := by
  refine ⟨⟨fun a o h => w.rh.rd a o (cut_le h), fun a f o h => w.rh.nf a f o (cut_le h)⟩, ?_, ?_, w.so.2.2⟩
  · cases e : E64.cut R S.s with
    | none => rfl
    | some o => have := cut_le e; rw [w.so.1] at this; cases this
  · cases e : E64.cut R S.c with
    | none => rfl
    | some o => have := cut_le e; rw [w.so.2.1] at this; cases this
end
end E64
/-! a dict unlocked; the big dicts laid -/
namespace E64
open PySem PySem.Spec PyProof.Rows L2
/-- the dict at q is unlocked first, if it is locked -/
def tUnl (q : Nat) (t : TS) : TS := fun D σ H => ∃ a, σ[q]? = some (some (.ref a)) ∧ ((∃ ws, H a = some (.dK ws) ∧ t D σ H) ∨ ∃ od ws, H a = some (.frz od (.dK ws)) ∧ t D σ (upd H a (.dK ws)))
theorem ps_unl {X : Cx} {st : Stmt} {t : TS} {q : Nat} (h : PS X st t) (hO : Only X.H_0) : PS X st (tUnl q t) := by
  refine ⟨fun pins s σ H D I hw => ?_⟩
  obtain ⟨a, _, ⟨ws, h1, h2⟩ | ⟨od, ws, h1, h2⟩⟩ := hw
  · exact h.run pins s σ H D I h2
  · refine h.run pins s σ _ D (I.unlock h1 fun o' u' e => ?_) h2
    have e2 := I.base.frzs a o' u' e
    rw [h1] at e2
    rcases hO a with z | ⟨o, xs, z⟩
    · rw [z] at e; cases e
    · rw [z] at e; cases e; cases e2
section
variable {K : PySem.W.Frag} {S : Sa} {R H : Hp}
/-- a dict that stands (locked or not) is added to the frozen heap -/
theorem Wd.add (w : Wd S R H) {a : Addr} {ws : List (Key × V)} (hp : Rd H a (.dK ws)) (rp : R a = none) (n1 : a ≠ S.s) (n2 : a ≠ S.c) : Wd S (upd R a (.dK ws)) H := by
  refine ⟨⟨fun b o e => ?_, fun b f o e => ?_⟩, by rw [upd_ne n1.symm]; exact w.so.1, by rw [upd_ne n2.symm]; exact w.so.2.1, w.so.2.2⟩
  · by_cases z : b = a
    · subst z; rw [upd_same] at e; cases e; exact hp
    · rw [upd_ne z] at e; exact w.rh.rd b o e
  · by_cases z : b = a
    · subst z; rw [upd_same] at e; cases e
    · rw [upd_ne z] at e; exact w.rh.nf b f o e
/-- a big dict stands at a, outside of R -/
structure Big (K : PySem.W.Frag) (S : Sa) (R H : Hp) (a : Addr) (kvs : List (Str × D)) : Prop where
  rn : R a = none
  n1 : a ≠ S.s
  n2 : a ≠ S.c
  ob : ∃ ws, Rd H a (.dK ws) ∧ RepK K S R ws kvs
theorem Big.rep (b : Big K S R H a kvs) (w : Wd S R H) : ∃ ws, Wd S (upd R a (.dK ws)) H ∧ Rep K S (upd R a (.dK ws)) (.ref a) (.dct kvs) ∧ Ex R (upd R a (.dK ws)) := by
  obtain ⟨ws, h1, h2⟩ := b.ob
  exact ⟨ws, w.add h1 b.rn b.n1 b.n2, .dct upd_same (h2.mono (Evl.Ex.new b.rn)), Evl.Ex.new b.rn⟩
/-- a big dict of ours, told by a frozen heap, is big outside of the cut heap -/
theorem Big.of {v : V} {kvs : List (Str × D)} (w : Wd S R H) (r : Rep K S R v (.dct kvs)) (h9 : kvs.length = 9) (n : no9K kvs = true) : ∃ a, v = .ref a ∧ Big K S (cut R) H a kvs := by
  cases r with
  | dct h1 h2 =>
    rename_i a ws
    refine ⟨a, rfl, ?_, (w.nes h1).1, (w.nes h1).2, ws, w.rh.rd _ _ h1, h2.cut n⟩
    unfold E64.cut
    rw [h1]
    have hl : ws.length = 9 := by rw [h2.len]; exact h9
    simp [nineO, hl]
theorem Big.cut {kvs : List (Str × D)} {a : Addr} (b : Big K S R H a kvs) (n : no9K kvs = true) : Big K S (E64.cut R) H a kvs := by
  obtain ⟨ws, h1, h2⟩ := b.ob
  refine ⟨?_, b.n1, b.n2, ws, h1, h2.cut n⟩
  unfold E64.cut
  rw [b.rn]
theorem Big.step {kvs : List (Str × D)} {a : Addr} {R1 H1 : Hp} {xs : List Addr} (b : Big K S R H a kvs) (w : Wx S xs R H R1 H1) (hx : a ∉ xs) : Big K S R1 H1 a kvs := by
  obtain ⟨ws, h1, h2⟩ := b.ob
  have hne : H a ≠ none := by rcases h1 with z | ⟨_, z⟩ <;> rw [z] <;> simp
  refine ⟨w.fr a hx hne b.rn, b.n1, b.n2, ws, ?_, h2.mono w.rr⟩
  rcases h1 with z | ⟨o, z⟩
  · exact .inl (w.hh a _ hx b.n1 b.n2 z)
  · exact .inr ⟨o, w.hh a _ hx b.n1 b.n2 z⟩
end
end E64
/-! stores hold no dict of nine -/
namespace E64
open PySem PySem.Spec PyProof.Rows L2
theorem n9_map {α : Type} {f : α → D} {l : List α} (h : ∀ x ∈ l, no9 (f x) = true) : no9L (l.map f) = true := no9L_of fun d hd => by
  obtain ⟨x, hx, rfl⟩ := List.mem_map.mp hd
  exact h x hx
theorem n9_use (p : Str × Int) : no9 (useD p) = true := by simp [useD, no9, no9L]
theorem n9_job {j : Job} (h : no9 j.cmd = true) : no9 (jobD j) = true := by
  unfold jobD
  simp only [no9, no9L, h, Bool.and_true, Bool.true_and]
  rw [n9_map (fun x _ => by simp [no9]), n9_map fun x _ => n9_use x]
  rfl
theorem n9_book {b : Book} (h : SmallB b) : no9 (bookD b) = true := by
  unfold bookD
  simp only [no9, no9L, Bool.and_true]
  rw [n9_map fun x _ => n9_use x, n9_map fun j hj => n9_job (h.cm j hj)]
  rfl
theorem n9_hold (h : Hold) : no9 (holdD h) = true := by simp [holdD, no9, no9L]
theorem atom_n9 {d : D} (h : atom d = true) : no9 d = true := by
  cases d <;> simp_all [atom, no9]
theorem n9_end {e : End} (h : EndOk e) : no9 (endD e) = true := by simp [endD, no9, no9L, atom_n9 h.2]
theorem n9_dct {α : Type} {f : α → D} {l : List (Str × α)} (hl : l.length ≤ 8) (h : ∀ p ∈ l, no9 (f p.2) = true) : no9 (.dct (l.map fun p => (p.1, f p.2))) = true := by
  simp only [no9, Bool.and_eq_true, Bool.not_eq_true', beq_eq_false_iff_ne]
  refine ⟨by simp; omega, no9K_of fun d hd => ?_⟩
  obtain ⟨p, hp, rfl⟩ := List.mem_map.mp hd
  exact h p hp
/-- what stands in freed is plain -/
def FrOk (s : St) : Prop := ∀ p ∈ s.freed, no9L p.2 = true
theorem n9_flds {lay : Bool} {s : St} (h : Shw s) (f : FrOk s) : no9K (flds lay s) = true := by
  have h1 := n9_book h.sb
  have h2 : no9 (holdsD s.holds) = true := n9_dct h.toInv.hl fun p _ => n9_hold p.2
  have h3 : no9 (endsD s.ends) = true := n9_dct (f := fun es : List End => D.tup (es.map endD)) h.toInv.el8 fun p hp => by
    simp only [no9]
    exact n9_map fun e he => n9_end (h.en p hp e he)
  have h4 : no9 (barredD s.barred) = true := n9_dct h.toInv.bl fun p _ => by simp [no9]
  have h5 : no9 (freedD s.freed) = true := by
    unfold freedD
    simp only [no9]
    exact n9_map fun p hp => by simp only [no9, no9L, Bool.true_and]; exact f p hp
  unfold flds
  split <;> simp only [no9K, h1, h2, h3, h4, h5, no9, Bool.and_true, Bool.true_and]
theorem fr_hear {mv : Bool} {s : St} (f : FrOk s) (l : Lt) : FrOk (hear mv s l).1 := by
  have g : ∀ {j : Str} {x : Hold} {p : Int × List D}, p ∈ srtF (s.freed ++ [goneOf s j x]) → no9L p.2 = true := fun hp => by
    rcases List.mem_append.mp ((srtF_perm _).mem_iff.mp hp) with z | z
    · exact f _ z
    · rw [List.mem_singleton.mp z]; simp [goneOf, no9L, no9]
  cases l <;> unfold hear <;> simp only [] <;> (repeat' split) <;> first | exact f | exact fun p hp => g hp | exact fun p hp => f p hp
end E64
/-! big states -/
namespace E64
open PySem PySem.Spec PyProof.Rows L2
/-- N, and every dict of nine in H but the source -/
def bigAt (H : Hp) (a : Addr) : Option HO := match H a with
  | some (.dK ws) => if ws.length = 9 then some (.dK ws) else none
  | some (.frz _ (.dK ws)) => if ws.length = 9 then some (.dK ws) else none
  | _ => none
def full (S : Sa) (N H : Hp) : Hp := fun a => match N a with
  | some o => some o
  | none => if a = S.s ∨ a = S.c then none else bigAt H a
theorem bigAt_rd {H : Hp} {a : Addr} {o : HO} (h : bigAt H a = some o) : ∃ ws, o = .dK ws ∧ ws.length = 9 ∧ Rd H a (.dK ws) := by
  unfold bigAt at h
  split at h
  · rename_i ws e
    split at h
    · rename_i h9; cases h; exact ⟨ws, rfl, h9, .inl e⟩
    · cases h
  · rename_i f ws e
    split at h
    · rename_i h9; cases h; exact ⟨ws, rfl, h9, .inr ⟨f, e⟩⟩
    · cases h
  · cases h
theorem bigAt_of {H : Hp} {a : Addr} {ws : List (Key × V)} (h : Rd H a (.dK ws)) (h9 : ws.length = 9) : bigAt H a = some (.dK ws) := by
  unfold bigAt
  rcases h with e | ⟨f, e⟩
  · rw [e]; simp [h9]
  · rw [e]; simp [h9]
section
variable {K : PySem.W.Frag} {S : Sa} {N H : Hp}
theorem full_ex : Ex N (full S N H) := fun a o e => by unfold full; rw [e]
theorem Wd.full (w : Wd S N H) : Wd S (E64.full S N H) H := by
  refine ⟨⟨fun a o e => ?_, fun a f o e => ?_⟩, ?_, ?_, w.so.2.2⟩
  · unfold E64.full at e
    split at e
    · rename_i u q; cases e; exact w.rh.rd _ _ q
    · split at e
      · cases e
      · obtain ⟨ws, rfl, _, h⟩ := bigAt_rd e; exact h
  · unfold E64.full at e
    split at e
    · rename_i u q; cases e; exact w.rh.nf _ _ _ q
    · split at e
      · cases e
      · obtain ⟨ws, z, _, h⟩ := bigAt_rd e; cases z
  · unfold E64.full; rw [w.so.1]; simp
  · unfold E64.full; rw [w.so.2.1]; simp
/-- small, or big outside of N -/
def RepB (K : PySem.W.Frag) (S : Sa) (N H : Hp) (v : V) (d : D) : Prop :=
  (no9 d = true ∧ Rep K S N v d) ∨ ∃ a kvs, v = .ref a ∧ d = .dct kvs ∧ kvs.length = 9 ∧ no9K kvs = true ∧ Big K S N H a kvs
/-- d is small, or a dict of nine small ones -/
def okB (d : D) : Prop := no9 d = true ∨ ∃ kvs, d = .dct kvs ∧ kvs.length = 9 ∧ no9K kvs = true
theorem RepB.full {v : V} {d : D} (r : RepB K S N H v d) : Rep K S (E64.full S N H) v d := by
  rcases r with ⟨_, r⟩ | ⟨a, kvs, rfl, rfl, h9, _, b⟩
  · exact r.mono full_ex
  · obtain ⟨ws, h1, h2⟩ := b.ob
    refine .dct ?_ (h2.mono full_ex)
    unfold E64.full
    rw [b.rn]
    simp only
    rw [if_neg (by rintro (z | z); exact b.n1 z; exact b.n2 z)]
    exact bigAt_of h1 (by rw [h2.len]; exact h9)
theorem RepB.ok {v : V} {d : D} (r : RepB K S N H v d) : okB d := by
  rcases r with ⟨n, _⟩ | ⟨a, kvs, rfl, rfl, h9, n, b⟩
  · exact .inl n
  · exact .inr ⟨kvs, rfl, h9, n⟩
/-- told by a frozen heap: told by the cut one -/
theorem RepB.of {R : Hp} {v : V} {d : D} (w : Wd S R H) (r : Rep K S R v d) (o : okB d) : RepB K S (cut R) H v d := by
  rcases o with n | ⟨kvs, rfl, h9, n⟩
  · exact .inl ⟨n, r.cut n⟩
  · obtain ⟨a, rfl, b⟩ := Big.of w r h9 n
    exact .inr ⟨a, kvs, rfl, rfl, h9, n, b⟩
/-- the slots of a state with big dicts -/
structure SlB (K : PySem.W.Frag) (S : Sa) (N H : Hp) (σ : L2.St) (sl : List (Option D)) : Prop where
  len : sl.length = σ.length
  at_ : ∀ (i : Nat) (d : D), sl[i]? = some (some d) → ∃ v : V, σ[i]? = some (some v) ∧ RepB K S N H v d
theorem SlB.env {σ : L2.St} {sl : List (Option D)} (b : SlB K S N H σ sl) : EnvR K S (E64.full S N H) H σ ⟨sl, none⟩ :=
  ⟨b.len, fun i d e => let ⟨v, h1, h2⟩ := b.at_ i d e; ⟨v, h1, h2.full⟩, fun i d e => nomatch e⟩
theorem SlB.step {σ : L2.St} {sl : List (Option D)} {R' H' : Hp} (b : SlB K S N H σ sl) (w : Wx S [] (E64.full S N H) H R' H') : SlB K S (cut R') H' σ sl :=
  ⟨b.len, fun i d e => let ⟨v, h1, h2⟩ := b.at_ i d e; ⟨v, h1, RepB.of w.wd (h2.full.mono w.rr) h2.ok⟩⟩
theorem SlB.put {σ : L2.St} {sl : List (Option D)} {v : V} {d : D} (b : SlB K S N H σ sl) (i : Nat) (r : RepB K S N H v d) : SlB K S N H (σ.set i (some v)) (sl.set i (some d)) := by
  refine ⟨by rw [List.length_set, List.length_set]; exact b.len, fun j x e => ?_⟩
  by_cases h : i = j
  · subst h
    rw [List.getElem?_set] at e
    simp only [if_true] at e
    split at e
    · rename_i hl
      cases e
      exact ⟨v, by rw [List.getElem?_set]; simp [← b.len, hl], r⟩
    · cases e
  · rw [List.getElem?_set_ne h] at e
    obtain ⟨u, h1, h2⟩ := b.at_ j x e
    exact ⟨u, by rw [List.getElem?_set_ne h]; exact h1, h2⟩
/-- a state with big dicts -/
def BigSt (K : PySem.W.Frag) (σ : L2.St) (H : Hp) (sl : List (Option D)) : Prop := ∃ S N, Wd S N H ∧ SlB K S N H σ sl
/-- an expression of ours, from a big state -/
theorem big_eval {c : C} {σ : L2.St} {sl : List (Option D)} {Q : VK} {Qd : D → Prop} (b : BigSt K σ H sl) (h : c ⟨sl, none⟩ Qd) (k : ∀ d v S R' H', Qd d → Wd S R' H' → SlB K S (cut R') H' σ sl → Rep K S R' v d → Q v H') : tD K c σ H Q := by
  obtain ⟨S, N, w, s⟩ := b
  exact ⟨S, E64.full S N H, ⟨sl, none⟩, Qd, w.full, s.env, h, fun d v R' H' q wx r => k d v S R' H' q wx.wd (s.step wx) r⟩
theorem big_test {c : CB} {σ : L2.St} {sl : List (Option D)} {Q : Bool → Hp → Prop} {Qd : Bool → Prop} (b : BigSt K σ H sl) (h : c ⟨sl, none⟩ Qd) (k : ∀ x H', Qd x → BigSt K σ H' sl → Q x H') : tT K c σ H Q := by
  obtain ⟨S, N, w, s⟩ := b
  exact ⟨S, E64.full S N H, ⟨sl, none⟩, Qd, w.full, s.env, h, fun x R' H' q wx => k x H' q ⟨S, cut R', wx.wd.cut, s.step wx⟩⟩
end
end E64
/-! statements over big states -/
namespace E64
open PySem PySem.Spec PyProof.Rows L2
def tSB (K : PySem.W.Frag) (cb : CS) : TS := fun Dn σ H => ∃ sl Nx Rt, BigSt K σ H sl ∧ cb ⟨sl, none⟩ Nx Rt ∧ (∀ sl' σ' H', Nx ⟨sl', none⟩ → BigSt K σ' H' sl' → Dn.nx σ' H') ∧ (∀ d v S R' H', Rt d → Wd S R' H' → Rep K S R' v d → Dn.rt v H')
abbrev BS (X : Cx) (st : Stmt) (c : CS) : Prop := PS X st (tSB X.K c)
abbrev BSs (X : Cx) (st : List Stmt) (c : CS) : Prop := PSs X st (tSB X.K c)
def sSetB (i : Nat) (c : C) : CS := fun env Nx _ => c env fun d => okB d ∧ Nx ⟨env.sl.set i (some d), none⟩
def sRngB (i n : Nat) (cb : CS) : CS := fun env Nx Rt => ∃ I : Nat → List (Option D) → Prop, I 0 env.sl ∧ (∀ k sl, k < n → I k sl → cb ⟨sl.set i (some (.int (k : Nat))), none⟩ (fun env' => I (k + 1) env'.sl) Rt) ∧ ∀ sl, I n sl → Nx ⟨sl, none⟩
section
variable {X : Cx} {st : Stmt} {sts : List Stmt} {e : Expr} {c : C} {ct : CB} {a b : CS} {pos : Pos}
theorem bs_cons (h1 : BS X st a) (h2 : BSs X sts b) : BSs X (st :: sts) (sSeq a b) :=
  PSsimp (pss_cons h1 h2) fun Dn σ H ⟨sl, Nx, Rt, bs, h, k1, k2⟩ => ⟨sl, _, Rt, bs, h, fun sl' σ' H' q b' => ⟨sl', Nx, Rt, b', q, k1, k2⟩, k2⟩
theorem bs_one (h1 : BS X st a) : BSs X [st] a := pss_one h1
theorem bs_nil : BSs X [] sNil := PSsimp pss_nil fun Dn σ H ⟨sl, Nx, Rt, bs, h, k1, k2⟩ => k1 sl σ H h bs
theorem bs_ret (he : DE X e c) : BS X (.Return (some e) pos) (sRet c) :=
  PSimp (ps_ret he) fun Dn σ H ⟨sl, Nx, Rt, bs, h, k1, k2⟩ => big_eval bs h fun d v S R' H' q w s r => k2 d v S R' H' q w r
theorem bs_if {t : Expr} {xs ys : List Stmt} (hc : DT X t ct) (ha : BSs X xs a) (hb : BSs X ys b) : BS X (.If t xs ys pos) (sIf ct a b) :=
  PSimp (ps_if hc ha hb) fun Dn σ H ⟨sl, Nx, Rt, bs, h, k1, k2⟩ => big_test bs h fun x H' q b' => by
    cases x with
    | true => exact ⟨sl, Nx, Rt, b', q, k1, k2⟩
    | false => exact ⟨sl, Nx, Rt, b', q, k1, k2⟩
theorem bs_set {i : Nat} {x : Str} {pos' : Pos} (hN : X.N.Nodup) (he : DE X e c) (hi : X.N[i]? = some x := by rfl) (hx : Loc X.env.scope x := by first | exact .inl rfl | exact .inr rfl) (hs : swapsWith e (some (.Name x pos')) pos.line X.env = pure false := by rfl) (hf : X.fn x = true ∨ X.env.scope.names.lookup x = some .local := by first | exact .inl rfl | exact .inr rfl | assumption) :
    BS X (.Assign [.Name x pos'] e pos) (sSetB i c) :=
  PSimp (ps_set hN hi hx he hs hf) fun Dn σ H ⟨sl, Nx, Rt, bs, h, k1, k2⟩ => big_eval bs h fun d v S R' H' q w s r => k1 _ _ H' q.2 ⟨S, cut R', w.cut, s.put i (RepB.of w r q.1)⟩
end
end E64
/-! loops and pairs over big states -/
namespace E64
open PySem PySem.Spec PyProof.Rows L2
theorem BigSt.putS {K : PySem.W.Frag} {σ : L2.St} {H : Hp} {sl : List (Option D)} (b : BigSt K σ H sl) (i : Nat) {v : V} {d : D} (n : no9 d = true) (r : ∀ S N, Rep K S N v d) : BigSt K (σ.set i (some v)) H (sl.set i (some d)) := by
  obtain ⟨S, N, w, s⟩ := b
  exact ⟨S, N, w, s.put i (.inl ⟨n, r S N⟩)⟩
section
variable {X : Cx} {tg e : Expr} {body : List Stmt} {cb : CS} {pos : Pos}
theorem bs_rng {i n : Nat} {x : Str} {p px pi pos : Pos} (hN : X.N.Nodup) (hn : n < 1000) (hc : X.calm = true) (hg : Gl X "range") (hm : X.mg "range" = none) (hp : PassesOwn (model X.prog X.w) X.A X.env X.xe) (hb : BSs X body cb)
    (he : PE X e (tC (.int (n : Nat)))) (hi : X.N[i]? = some x := by rfl) (hx : Loc X.env.scope x := by first | exact .inl rfl | exact .inr rfl) (hf : X.fn x = true ∨ X.env.scope.names.lookup x = some .local := by first | exact .inl rfl | exact .inr rfl | assumption)
    (hs : starEach [e] X.env = [(false, eval e X.env)] := by rfl) (hs2 : starEach [e] X.env = (false, eval e X.env) :: starEach [] X.env := by rfl) (hs3 : ∀ y, foldedSetIterable (.Call (.Name "range" p) [e] [] pi) X.env y = pure y := by intro _; rfl) :
    BS X (.For (.Name x px) (.Call (.Name "range" p) [e] [] pi) body [] pos) (sRngB i n cb) :=
  PSimp (ps_for hp hc (pi_range1 hg hm (pa_cons he pa_nil hs2) hs) (pg_name hN hi hx hf) hb hs3) fun Dn σ H ⟨sl, Nx, Rt, bs, ⟨I, i0, istep, iend⟩, k1, k2⟩ => by
    refine ⟨(n : Int), rfl, by omega, by omega, ?_⟩
    refine ⟨fun k m σ H => m = n - k ∧ k ≤ n ∧ ∃ sl, BigSt X.K σ H sl ∧ I k sl, ⟨n, by omega, by omega, sl, bs, i0⟩, ?_⟩
    rintro k m σ H ⟨rfl, hk, sl, bs, ik⟩
    by_cases h : k < n
    · refine .inr ⟨by show k < (n : Int).toNat; omega, fun σ' H' => k + 1 ≤ n ∧ ∃ sl, BigSt X.K σ' H' sl ∧ I (k + 1) sl, fun σ' H' z => ⟨n - (k + 1), by omega, rfl, z⟩, fun y H' hy => ?_⟩
      obtain ⟨e1, e2⟩ : H' = H ∧ y = .int (0 + k) := hy
      subst e1 e2
      have e3 : (0 : Int) + k = (k : Nat) := by omega
      rw [e3]
      exact ⟨_, _, Rt, bs.putS i (v := .int (k : Nat)) (d := .int (k : Nat)) (by simp [no9]) (fun _ _ => .int _), istep k sl h ik, fun sl' σ' H' q b' => ⟨h, sl', b', q⟩, k2⟩
    · have : k = n := by omega
      subst this
      exact .inl ⟨by show (k : Int).toNat ≤ k; omega, k1 sl σ H (iend sl ik) bs⟩
end
end E64
/-! pairs over big states; a field of a big dict written -/
namespace E64
open PySem PySem.Spec PyProof.Rows L2
def sParB (i j : Nat) (ca : CA) : CS := fun env Nx _ => ca env fun ds => ∃ d1 d2, ds = [d1, d2] ∧ okB d1 ∧ okB d2 ∧ Nx ⟨(env.sl.set i (some d1)).set j (some d2), none⟩
section
variable {X : Cx} {st : Stmt}
theorem bs_par {i j : Nat} {ca : CA} (h : PS X st (tPar i j (tL X.K ca))) : BS X st (sParB i j ca) :=
  PSimp h fun Dn σ H ⟨sl, Nx, Rt, bs, h, k1, k2⟩ => by
    obtain ⟨S, N, w, s⟩ := bs
    refine ⟨S, full S N H, ⟨sl, none⟩, _, w.full, s.env, h, fun ds vs R' H' q wx r => ?_⟩
    obtain ⟨d1, d2, rfl, o1, o2, q⟩ := q
    obtain ⟨v1, v2, rfl, r1, r2⟩ := two_v r
    have s' := s.step wx
    exact ⟨v1, v2, rfl, k1 _ _ H' q ⟨S, cut R', wx.wd.cut, (s'.put i (RepB.of wx.wd r1 o1)).put j (RepB.of wx.wd r2 o2)⟩⟩
end
section
variable {K : PySem.W.Frag} {S : Sa} {N H : Hp}
/-- an object outside of N and the source is changed -/
theorem Wd.chg (w : Wd S N H) {a : Addr} {o' : HO} (rn : N a = none) (n1 : a ≠ S.s) (n2 : a ≠ S.c) : Wd S N (upd H a o') := by
  refine ⟨⟨fun b u e => ?_, fun b f u e => ?_⟩, w.so.1, w.so.2.1, ?_⟩
  · have ne : b ≠ a := fun z => by rw [z, rn] at e; cases e
    rcases w.rh.rd b u e with q | ⟨f, q⟩
    · exact .inl (by rw [upd_ne ne]; exact q)
    · exact .inr ⟨f, by rw [upd_ne ne]; exact q⟩
  · have ne : b ≠ a := fun z => by rw [z, rn] at e; cases e
    rw [upd_ne ne]; exact w.rh.nf b f u e
  · obtain ⟨cs, l, m, t, h1, h2⟩ := w.so.2.2
    exact ⟨cs, l, m, t, by rw [upd_ne n1.symm]; exact h1, by rw [upd_ne n2.symm]; exact h2⟩
theorem rd_ne {a b : Addr} {o o' : HO} (h : Rd H b o) (ne : b ≠ a) : Rd (upd H a o') b o := by
  rcases h with q | ⟨f, q⟩
  · exact .inl (by rw [upd_ne ne]; exact q)
  · exact .inr ⟨f, by rw [upd_ne ne]; exact q⟩
theorem rd_one {a : Addr} {ws vs : List (Key × V)} (h : Rd H a (.dK ws)) (g : Rd H a (.dK vs)) : ws = vs := by
  rcases h with h | ⟨_, h⟩ <;> rcases g with g | ⟨_, g⟩ <;> rw [h] at g <;> cases g <;> rfl
/-- the big dict at a is unlocked -/
theorem SlB.unl {σ : L2.St} {sl : List (Option D)} {a : Addr} {ws : List (Key × V)} (s : SlB K S N H σ sl) (h : Rd H a (.dK ws)) : SlB K S N (upd H a (.dK ws)) σ sl :=
  ⟨s.len, fun i d e => by
    obtain ⟨v, h1, h2⟩ := s.at_ i d e
    refine ⟨v, h1, ?_⟩
    rcases h2 with h2 | ⟨b, kvs, e1, e2, h9, n, bg⟩
    · exact .inl h2
    · refine .inr ⟨b, kvs, e1, e2, h9, n, bg.rn, bg.n1, bg.n2, ?_⟩
      obtain ⟨vs, g1, g2⟩ := bg.ob
      by_cases z : b = a
      · subst z
        cases rd_one h g1
        exact ⟨ws, .inl upd_same, g2⟩
      · exact ⟨vs, rd_ne g1 z, g2⟩⟩
/-- the slot's big dict -/
theorem SlB.big {σ : L2.St} {sl : List (Option D)} {i : Nat} {kvs : List (Str × D)} (s : SlB K S N H σ sl) (e : sl[i]? = some (some (.dct kvs))) (h9 : kvs.length = 9) : ∃ a, σ[i]? = some (some (.ref a)) ∧ Big K S N H a kvs := by
  obtain ⟨v, h1, h2⟩ := s.at_ i _ e
  rcases h2 with ⟨n, _⟩ | ⟨b, kvs', e1, e2, _, n, bg⟩
  · simp [no9, h9] at n
  · cases e2
    subst e1
    exact ⟨b, h1, bg⟩
end
/-- own['time'], store = (own['time'] + 1, ticked(store)): the raw rule -/
def tTick (K : PySem.W.Frag) (i j : Nat) (ce : C) : TS := tUnl i (tAsg (tD K ce) (gTup K 2 (gCons (gSub (tVar i) (tC (.str "time")) rSetD) (gCons (gName j) gNil))))
def sTick (i j : Nat) (ce : C) : CS := fun env Nx _ => i ≠ j ∧ ∃ kvs t, env.sl[i]? = some (some (.dct kvs)) ∧ kvs.length = 9 ∧ lk "time" kvs = some (.int t) ∧
  (∀ l d, l ≠ i → l ≠ j → env.sl[l]? = some (some d) → no9 d = true) ∧
  ce env fun d => ∃ t1 kvs2 t2, d = .tup [.int t1, .dct kvs2] ∧ kvs2.length = 9 ∧ no9K kvs2 = true ∧ lk "time" kvs2 = some (.int t2) ∧ t ≠ t2 ∧ (putD kvs "time" (.int t1)).length = 9 ∧ no9K (putD kvs "time" (.int t1)) = true ∧
    Nx ⟨(env.sl.set i (some (.dct (putD kvs "time" (.int t1))))).set j (some (.dct kvs2)), none⟩
theorem bs_tick {X : Cx} {st : Stmt} {i j : Nat} {ce : C} (h : PS X st (tTick X.K i j ce)) : BS X st (sTick i j ce) :=
  PSimp h fun Dn σ H ⟨sl, Nx, Rt, bs, ⟨hij, kvs, t, ei, h9, et, ho, hc⟩, k1, k2⟩ => by
    obtain ⟨S, N, w, s⟩ := bs
    obtain ⟨a, ea, bg⟩ := s.big ei h9
    obtain ⟨ws, g1, g2⟩ := bg.ob
    -- the rest, from the unlocked heap
    have main : ∀ H0 : Hp, H0 a = some (.dK ws) → Wd S N H0 → SlB X.K S N H0 σ sl → tAsg (tD X.K ce) (gTup X.K 2 (gCons (gSub (tVar i) (tC (.str "time")) rSetD) (gCons (gName j) gNil))) Dn σ H0 := by
      intro H0 e0 w0 s0
      have r0 : full S N H0 a = some (.dK ws) := by
        unfold full
        rw [bg.rn]
        simp only
        rw [if_neg (by rintro (z | z); exact bg.n1 z; exact bg.n2 z)]
        exact bigAt_of (.inl e0) (by rw [g2.len]; exact h9)
      refine ⟨S, full S N H0, ⟨sl, none⟩, _, w0.full, s0.env, hc, fun d v R' H' q wx r => ?_⟩
      obtain ⟨t1, kvs2, t2, rfl, l9, n9, et2, htt, lp, np, q⟩ := q
      have s1 := s0.step wx
      have ha : H' a = some (.dK ws) := wx.hh a _ (by simp) bg.n1 bg.n2 e0
      have ra : R' a = some (.dK ws) := wx.rr _ _ r0
      have ca : cut R' a = none := by
        unfold E64.cut
        rw [ra]
        have hl : ws.length = 9 := by rw [g2.len]; exact h9
        simp [nineO, hl]
      have wc := wx.wd.cut
      cases r with
      | tup q1 q2 =>
        obtain ⟨v1, v2, rfl, r1, r2⟩ := two_v q2
        obtain rfl := int_v r1
        obtain ⟨b, rfl, bg2⟩ := Big.of wx.wd r2 l9 n9
        obtain ⟨a', ea', bg1⟩ := s1.big ei h9
        rw [ea] at ea'
        cases ea'
        obtain ⟨ws1, g3, g4⟩ := bg1.ob
        cases rd_one (.inl ha) g3
        obtain ⟨ws2, g5, g6⟩ := bg2.ob
        have hba : b ≠ a := by
          intro z
          subst z
          cases rd_one g3 g5
          obtain ⟨u1, z1, z2⟩ := (g4.lk (k := "time")).2 _ et
          obtain ⟨u2, z3, z4⟩ := (g6.lk (k := "time")).2 _ et2
          rw [z1] at z3
          cases z3
          obtain rfl := int_v z2
          have := int_v z4
          cases this
          exact htt rfl
        refine ⟨_, _, rfl, q1.sq wx.wd.rh, rfl, _, _, rfl, _, ea, a, _, rfl, DPut.k (k := .inr "time") ha (by rw [g2.len, h9]; rw [sizeLine_eq]; omega), _, _, rfl, rfl, ?_⟩
        refine k1 _ _ _ q ⟨S, cut R', wc.chg ca bg.n1 bg.n2, ?_⟩
        have hil : i < sl.length := by
          rcases Nat.lt_or_ge i sl.length with z | z
          · exact z
          · rw [List.getElem?_eq_none z] at ei; cases ei
        refine ⟨by rw [List.length_set, List.length_set, List.length_set]; exact s1.len, fun l d e => ?_⟩
        by_cases hj : l = j
        · subst hj
          have hl : l < sl.length := by
            rcases Nat.lt_or_ge l sl.length with z | z
            · exact z
            · rw [List.getElem?_eq_none (by rw [List.length_set, List.length_set]; exact z)] at e; cases e
          rw [List.getElem?_set_self (by rw [List.length_set]; exact hl)] at e
          cases e
          exact ⟨.ref b, by rw [List.getElem?_set_self (by rw [← s1.len]; exact hl)], .inr ⟨b, kvs2, rfl, rfl, l9, n9, bg2.rn, bg2.n1, bg2.n2, ws2, rd_ne g5 hba, g6⟩⟩
        · rw [List.getElem?_set_ne (Ne.symm hj)] at e
          rw [List.getElem?_set_ne (Ne.symm hj)]
          by_cases hi : l = i
          · subst hi
            rw [List.getElem?_set_self hil] at e
            cases e
            exact ⟨.ref a, ea, .inr ⟨a, _, rfl, rfl, lp, np, ca, bg.n1, bg.n2, _, .inl upd_same, g4.put (.int t1)⟩⟩
          · rw [List.getElem?_set_ne (Ne.symm hi)] at e
            obtain ⟨u, z1, z2⟩ := s1.at_ l d e
            have n := ho l d hi hj e
            refine ⟨u, z1, .inl ⟨n, ?_⟩⟩
            rcases z2 with z2 | ⟨c, kv, _, rfl, c9, _, _⟩
            · exact z2.2
            · simp [no9, c9] at n
    refine ⟨a, ea, ?_⟩
    rcases g1 with e | ⟨f, e⟩
    · exact .inl ⟨ws, e, main H e w s⟩
    · refine .inr ⟨f, ws, e, main _ upd_same (w.chg bg.rn bg.n1 bg.n2) (s.unl (.inr ⟨f, e⟩))⟩
end E64
/-! the law's own and the store side by side -/
namespace E64
open PySem PySem.Spec PyProof.Rows L2
mutual
theorem lay_n9 : ∀ {d : D}, PyData.canLay0 (toPy d) = true → no9 d = true
  | .non, _ => by simp [no9]
  | .bl _, _ => by simp [no9]
  | .int _, _ => by simp [no9]
  | .str _, _ => by simp [no9]
  | .src, _ => by simp [no9]
  | .tup ds, h => by
    rw [toPy] at h
    simp only [PyData.canLay0] at h
    simp only [no9]
    exact lay_n9L h
  | .lst ds, h => by
    rw [toPy] at h
    simp only [PyData.canLay0] at h
    simp only [no9]
    exact lay_n9L h
  | .dct kvs, h => by rw [toPy] at h; simp [PyData.canLay0] at h
  | .prs ds, h => by rw [toPy] at h; simp [PyData.canLay0] at h
theorem lay_n9L : ∀ {ds : List D}, PyData.canLayAll0 (toPyL ds) = true → no9L ds = true
  | [], _ => by simp [no9L]
  | d :: ds, h => by
    rw [toPyL] at h
    simp only [PyData.canLayAll0, Bool.and_eq_true] at h
    simp only [no9L, lay_n9 h.1, lay_n9L h.2, Bool.and_self]
end
theorem Sz.n9 {n k : Nat} {d : D} (h : Sz n k d) : no9 d = true := lay_n9 h.lay
theorem hear_book {mv : Bool} {s : St} (l : Lt) : (hear mv s l).1.book = s.book := by
  cases l <;> unfold hear <;> simp only [] <;> (repeat' split) <;> rfl
theorem hear_fl {mv : Bool} {s : St} (l : Lt) : (hear mv s l).1.freed.length ≤ s.freed.length + 1 := by
  cases l <;> unfold hear <;> simp only [] <;> (repeat' split) <;> first | exact Nat.le_succ _ | (show (srtF _).length ≤ _; rw [(srtF_perm _).length_eq, List.length_append]; exact Nat.le_refl _)
structure Tw (B n : Nat) (b : Book) (o s : St) : Prop where
  io : Inv o
  is : Inv s
  rel : Rel o s
  bo : o.book = b
  bs : s.book = b
  sb : SmallB b
  so : Small B o
  ss : Small B s
  fo : FrOk o
  fs : FrOk s
  lo : o.freed.length ≤ n
  ls : s.freed.length ≤ n
section
variable {B n : Nat} {b : Book} {o s : St}
theorem Tw.mono (t : Tw B n b o s) {B' n' : Nat} (h1 : B ≤ B') (h2 : n ≤ n') : Tw B' n' b o s :=
  ⟨t.io, t.is, t.rel, t.bo, t.bs, t.sb, t.so.mono h1, t.ss.mono h1, t.fo, t.fs, Nat.le_trans t.lo h2, Nat.le_trans t.ls h2⟩
theorem Tw.shO (t : Tw B n b o s) (hB : B ≤ 10 ^ 5) : Shw o := ⟨t.io, by rw [t.bo]; exact t.sb, B, hB, t.so⟩
theorem Tw.shS (t : Tw B n b o s) (hB : B ≤ 10 ^ 5) : Shw s := ⟨t.is, by rw [t.bs]; exact t.sb, B, hB, t.ss⟩
theorem Tw.hear (t : Tw B n b o s) (hn : n < 1000) {l : Lt} (h1 : LtSm B l) (h2 : LtOk l) : Tw (B + 4) (n + 1) b (hear true o l).1 (hear false s l).1 :=
  ⟨i_hear t.io h2 (Nat.lt_of_le_of_lt t.lo hn), i_hear t.is h2 (Nat.lt_of_le_of_lt t.ls hn), (t.rel.hear t.io l).1, by rw [hear_book]; exact t.bo, by rw [hear_book]; exact t.bs, t.sb, s_hear t.so t.io h1, s_hear t.ss t.is h1,
    fr_hear t.fo l, fr_hear t.fs l, Nat.le_trans (hear_fl l) (Nat.succ_le_succ t.lo), Nat.le_trans (hear_fl l) (Nat.succ_le_succ t.ls)⟩
def tickS (s : St) : St := ⟨s.book, s.time + 1, s.epoch, s.moment, s.fence, s.holds, s.ends, s.barred, s.freed⟩
theorem Tw.tick (t : Tw B n b o s) : Tw (B + 1) n b (tickS o) (tickS s) := by
  have so := t.so.mono (Nat.le_succ B)
  have ss := t.ss.mono (Nat.le_succ B)
  have h1 := t.so.ti
  have h2 := t.ss.ti
  exact ⟨t.io.of rfl rfl rfl rfl rfl (Int.le_refl _), t.is.of rfl rfl rfl rfl rfl (Int.le_refl _), ⟨t.rel.bk, by show o.time + 1 = s.time + 1; rw [t.rel.ti], t.rel.ep, t.rel.mo, t.rel.fe, t.rel.hp, t.rel.en, t.rel.ba⟩, t.bo, t.bs, t.sb,
    ⟨by show (o.time + 1).natAbs ≤ _; omega, so.ep, so.mo, so.fe, so.ho, so.en, so.ba⟩, ⟨by show (s.time + 1).natAbs ≤ _; omega, ss.ep, ss.mo, ss.fe, ss.ho, ss.en, ss.ba⟩, t.fo, t.fs, t.lo, t.ls⟩
def st0 (b : Book) : St := ⟨b, 0, 0, 0, 0, [], [], [], []⟩
theorem tw0 {b : Book} (hb : BookOk b) (sb : SmallB b) : Tw 0 0 b (st0 b) (st0 b) := by
  have i : Inv (st0 b) := ⟨⟨⟨hb, fun p hp => nomatch hp⟩, fun p hp => nomatch hp⟩, List.nodup_nil, List.nodup_nil, List.nodup_nil, (fun p hp => nomatch hp), (fun p hp => nomatch hp), (fun p hp => nomatch hp), (fun p hp => nomatch hp), (fun p hp => nomatch hp), List.nodup_nil, (fun p hp => nomatch hp), List.nodup_nil, (fun p hp => nomatch hp), (fun p hp => nomatch hp), by simp [st0]⟩
  have sm : Small 0 (st0 b) := ⟨by simp [st0], by simp [st0], by simp [st0], by simp [st0], (fun p hp => nomatch hp), (fun p hp => nomatch hp), (fun p hp => nomatch hp)⟩
  exact ⟨i, i, ⟨rfl, rfl, rfl, rfl, rfl, .refl _, .refl _, .refl _⟩, rfl, rfl, sb, sm, sm, (fun p hp => nomatch hp), (fun p hp => nomatch hp), Nat.le_refl _, Nat.le_refl _⟩
end
theorem p_fresh {b : Book} {Q : D → Prop} (q : Q (stD false (st0 b))) : g_l_fresh [bookD b] Q := by
  unfold g_l_fresh c_l_fresh
  simp [x_var, x_put]
  exact cast (congrArg Q (by kernel_rfl)) q
theorem ok_st {lay : Bool} {s : St} (h : Shw s) (f : FrOk s) : okB (stD lay s) := .inr ⟨_, rfl, flds_len, n9_flds h f⟩
theorem n9_let {B : Nat} {s : St} {l : Lt} (h : Shw s) (hB : B ≤ 10 ^ 5) (sm : Small B s) (hl : LtSm B l) : no9 (letD l) = true := by
  have z := (h.noS hB sm hl).n9
  unfold noD at z
  simp only [no9, no9L, Bool.and_true, Bool.true_and] at z
  exact z
end E64
/-! the body of the law over big states -/
namespace E64
open PySem PySem.Spec PyProof.Rows L2
abbrev s_law : Stmt := top 52
abbrev N_law : List Str := ["_law_script", "_law_source", "_law_lap", "_law_book", "_law_own", "_law_store", "_law_lead", "_law_turn", "_law_letter", "_law_told", "_law_due"]
theorem sc_law : FnScope N_law ["_law_script"] (defScope s_law) := C8.fnScope_by (by decide +kernel)
def c_law : CS := sSeq (sRngB 2 2 (sSeq (sSetB 3 (cCall 2 g_l_draw_book (aCons (cVar 1) (aCons (cC (.int 5)) (aNil)))))
  (sSeq (sParB 4 5 (aCons (cCall 1 g_l_fresh (aCons (cVar 3) (aNil))) (aCons (cCall 1 g_new_store (aCons (cVar 3) (aNil))) (aNil))))
  (sSeq (sSetB 6 (cOp fMul (cC (.int 20)) (cCall 2 g_l_pick (aCons (cVar 1) (aCons (cC (.int 2)) (aNil))))))
  (sRngB 7 16 (sSeq (sIf (cTest (cOp fEq (cCall 2 g_l_pick (aCons (cVar 1) (aCons (cC (.int 5)) (aNil)))) (cC (.int 0)))) (sTick 4 5 (cTup (aCons (cOp fAdd (cDGet (cVar 4) (cC (.str "time"))) (cC (.int 1))) (aCons (cCall 1 g_ticked (aCons (cVar 5) (aNil))) (aNil))))) (sNil))
  (sSeq (sSetB 8 (cIf (cTest (cOp fGt (cVar 7) (cC (.int 0)))) (cCall 3 g_l_led_letter (aCons (cVar 1) (aCons (cVar 4) (aCons (cOp fAdd (cVar 7) (cVar 6)) (aNil))))) (cTup (aCons (cC (.str "take")) (aCons (cC (.int 1)) (aNil))))))
  (sSeq (sSetB 4 (cOp fIx (cCall 2 g_l_heard (aCons (cVar 4) (aCons (cVar 8) (aNil)))) (cC (.int 0))))
  (sSeq (sSetB 5 (cOp fIx (cCall 2 g_store_hears (aCons (cVar 5) (aCons (cVar 8) (aNil)))) (cC (.int 0))))
  (sIf (cTest (cOp fIn (cVar 7) (cTup (aCons (cC (.int 3)) (aCons (cC (.int 7)) (aCons (cC (.int 11)) (aCons (cC (.int 15)) (aNil)))))))) (sSeq (sSetB 9 (cOp fIx (cOp fIx (cCall 2 g_store_hears (aCons (cVar 5) (aCons (cTup (aCons (cC (.str "ask")) (aCons (cDGet (cVar 4) (cC (.str "epoch"))) (aNil)))) (aNil)))) (cC (.int 1))) (cC (.int 0))))
  (sSeq (sIf (cOr (cTest (cOp fNe (cCB fRepr (aCons (cVar 9) (aNil))) (cCB fRepr (aCons (cOp fIx (cCall 2 g_l_heard (aCons (cVar 4) (aCons (cTup (aCons (cC (.str "ask")) (aCons (cDGet (cVar 4) (cC (.str "epoch"))) (aNil)))) (aNil)))) (cC (.int 1))) (aNil))))) (cNot (cTru (cCall 2 g_l_follows (aCons (cCall 2 g_l_of_told (aCons (cVar 3) (aCons (cVar 9) (aNil)))) (aCons (cVar 5) (aNil))))))) (sRet (cC (.bl false))) (sNil))
  (sSeq (sSetB 8 (cCall 2 g_l_draw_letter (aCons (cVar 1) (aCons (cVar 4) (aNil)))))
  (sSeq (sSetB 10 (cOp fIx (cCall 2 g_l_heard (aCons (cCall 2 g_l_of_told (aCons (cVar 3) (aCons (cVar 9) (aNil)))) (aCons (cVar 8) (aNil)))) (cC (.int 1))))
  (sIf (cTest (cOp fNe (cCB fRepr (aCons (cOp fIx (cCall 2 g_store_hears (aCons (cVar 5) (aCons (cVar 8) (aNil)))) (cC (.int 1))) (aNil))) (cCB fRepr (aCons (cTup (aCons (cVar 10) (aNil))) (aNil))))) (sRet (cC (.bl false))) (sNil)))))) (sNil)))))))))))
  (sRet (cC (.bl true)))
theorem bs_law {P : Program} {w : World} {K : PySem.W.Frag} {mg : Str → Option Value} {base : Heap} {f : Addr} {k : Nat} (hk : 7 ≤ k) (B : Bl mg) (h_l_draw_book : Fn P w K mg base 6 2 "_law_draw_book" g_l_draw_book) (h_new_store : Fn P w K mg base 1 1 "new_store" g_new_store) (h_l_fresh : Fn P w K mg base 1 1 "_law_fresh" g_l_fresh) (h_l_pick : Fn P w K mg base 1 2 "_law_pick" g_l_pick) (h_ticked : Fn P w K mg base 2 1 "ticked" g_ticked) (h_l_led_letter : Fn P w K mg base 6 3 "_law_led_letter" g_l_led_letter) (h_l_heard : Fn P w K mg base 6 2 "_law_heard" g_l_heard) (h_store_hears : Fn P w K mg base 7 2 "store_hears" g_store_hears) (h_l_follows : FnGn P w K mg base 6 2 "_law_follows" g_l_follows) (h_l_of_told : Fn P w K mg base 1 2 "_law_of_told" g_l_of_told) (h_l_draw_letter : Fn P w K mg base 5 2 "_law_draw_letter" g_l_draw_letter) (cdv : Value) (A : Around) (outer : List PySem.Env) (s : Shared) (H : Hp) (E : XK) (hO : Only H) (hr : Room k (A.deeper (envOfC "law" (defScope s_law) s.heap.objs.size f cdv))) (hgd : (A.deeper (envOfC "law" (defScope s_law) s.heap.objs.size f cdv)).guards = some []) :
    BSs (cxOf CX0 P w K mg base N_law "law" (defScope s_law) f cdv A outer s H E).nox (defBody s_law).tail c_law := by
  have nd := sc_law.nd
  have hu1 := room_u1 hr
  have hu64 := room_u64 hr
  have hu70 := room_u70 hr
  exact bs_cons (bs_rng nd (by decide) rfl rfl B.range_ PassesOwn.never (bs_cons (bs_set nd (de_callN h_l_draw_book (hr.mono (by omega)) rfl (dl_cons (dv 1) (dl_cons (de_int) (dl_nil)))))
    (bs_cons (bs_par (ps_par rfl nd rfl rfl (by decide) rfl rfl (dl_cons (de_callN h_l_fresh (hr.mono (by omega)) rfl (dl_cons (dv 3) (dl_nil))) (dl_cons (de_callN h_new_store (hr.mono (by omega)) rfl (dl_cons (dv 3) (dl_nil))) (dl_nil))) rfl))
    (bs_cons (bs_set nd (de_mul (de_int) (de_callN h_l_pick (hr.mono (by omega)) rfl (dl_cons (dv 1) (dl_cons (de_int) (dl_nil))))))
    (bs_one (bs_rng nd (by decide) rfl rfl B.range_ PassesOwn.never (bs_cons (bs_if (dt_eq hu64 (de_callN h_l_pick (hr.mono (by omega)) rfl (dl_cons (dv 1) (dl_cons (de_int) (dl_nil)))) (de_int)) (bs_one (bs_tick (ps_unl (ps_asg (de_tup (dl_cons (de_add (de_dget hu1 (dv 4) (de_str)) (de_int)) (dl_cons (de_callN h_ticked (hr.mono (by omega)) rfl (dl_cons (dv 5) (dl_nil))) (dl_nil)))) (pg_tup rfl (pgs_cons (pg_sub (pv 4) pe_str (set_dict hu1)) (pgs_cons (pg_name nd rfl (by first | exact .inl rfl | exact .inr rfl)) pgs_nil)))) hO))) (bs_nil))
    (bs_cons (bs_set nd (de_if (dt_gt (dv 7) (de_int)) (de_callN h_l_led_letter (hr.mono (by omega)) rfl (dl_cons (dv 1) (dl_cons (dv 4) (dl_cons (de_add (dv 7) (dv 6)) (dl_nil))))) (de_tup (dl_cons (de_str) (dl_cons (de_int) (dl_nil))))))
    (bs_cons (bs_set nd (de_ix (de_callN h_l_heard (hr.mono (by omega)) rfl (dl_cons (dv 4) (dl_cons (dv 8) (dl_nil)))) (de_int)))
    (bs_cons (bs_set nd (de_ix (de_callN h_store_hears (hr.mono (by omega)) rfl (dl_cons (dv 5) (dl_cons (dv 8) (dl_nil)))) (de_int)))
    (bs_one (bs_if (dt_in (dv 7) (de_tup (dl_cons (de_int) (dl_cons (de_int) (dl_cons (de_int) (dl_cons (de_int) (dl_nil))))))) (bs_cons (bs_set nd (de_ix (de_ix (de_callN h_store_hears (hr.mono (by omega)) rfl (dl_cons (dv 5) (dl_cons (de_tup (dl_cons (de_str) (dl_cons (de_dget hu1 (dv 4) (de_str)) (dl_nil)))) (dl_nil)))) (de_int)) (de_int)))
    (bs_cons (bs_if (dt_w (dw_or (dt_ne hu64 (de_repr hgd hu70 rfl B.repr_ (dl_cons (dv 9) (dl_nil))) (de_repr hgd hu70 rfl B.repr_ (dl_cons (de_ix (de_callN h_l_heard (hr.mono (by omega)) rfl (dl_cons (dv 4) (dl_cons (de_tup (dl_cons (de_str) (dl_cons (de_dget hu1 (dv 4) (de_str)) (dl_nil)))) (dl_nil)))) (de_int)) (dl_nil)))) (dw_or1 (dt_not (dt_tru (de_callNG h_l_follows (hr.mono (by omega)) hgd rfl (dl_cons (de_callN h_l_of_told (hr.mono (by omega)) rfl (dl_cons (dv 3) (dl_cons (dv 9) (dl_nil)))) (dl_cons (dv 5) (dl_nil))))))))) (bs_one (bs_ret (de_bl))) (bs_nil))
    (bs_cons (bs_set nd (de_callN h_l_draw_letter (hr.mono (by omega)) rfl (dl_cons (dv 1) (dl_cons (dv 4) (dl_nil)))))
    (bs_cons (bs_set nd (de_ix (de_callN h_l_heard (hr.mono (by omega)) rfl (dl_cons (de_callN h_l_of_told (hr.mono (by omega)) rfl (dl_cons (dv 3) (dl_cons (dv 9) (dl_nil)))) (dl_cons (dv 8) (dl_nil)))) (de_int)))
    (bs_one (bs_if (dt_ne hu64 (de_repr hgd hu70 rfl B.repr_ (dl_cons (de_ix (de_callN h_store_hears (hr.mono (by omega)) rfl (dl_cons (dv 5) (dl_cons (dv 8) (dl_nil)))) (de_int)) (dl_nil))) (de_repr hgd hu70 rfl B.repr_ (dl_cons (de_tup (dl_cons (dv 10) (dl_nil))) (dl_nil)))) (bs_one (bs_ret (de_bl))) (bs_nil))))))) (bs_nil))))))) pe_int))))) pe_int)
    (bs_one (bs_ret (de_bl)))
end E64
/-! the body of the law, plain -/
namespace E64
open PySem PySem.Spec PyProof.Rows L2
def tellB : CS := sSeq (sSetB 9 (cOp fIx (cOp fIx (cCall 2 g_store_hears (aCons (cVar 5) (aCons (cTup (aCons (cC (.str "ask")) (aCons (cDGet (cVar 4) (cC (.str "epoch"))) (aNil)))) (aNil)))) (cC (.int 1))) (cC (.int 0))))
  (sSeq (sIf (cOr (cTest (cOp fNe (cCB fRepr (aCons (cVar 9) (aNil))) (cCB fRepr (aCons (cOp fIx (cCall 2 g_l_heard (aCons (cVar 4) (aCons (cTup (aCons (cC (.str "ask")) (aCons (cDGet (cVar 4) (cC (.str "epoch"))) (aNil)))) (aNil)))) (cC (.int 1))) (aNil))))) (cNot (cTru (cCall 2 g_l_follows (aCons (cCall 2 g_l_of_told (aCons (cVar 3) (aCons (cVar 9) (aNil)))) (aCons (cVar 5) (aNil))))))) (sRet (cC (.bl false))) (sNil))
  (sSeq (sSetB 8 (cCall 2 g_l_draw_letter (aCons (cVar 1) (aCons (cVar 4) (aNil)))))
  (sSeq (sSetB 10 (cOp fIx (cCall 2 g_l_heard (aCons (cCall 2 g_l_of_told (aCons (cVar 3) (aCons (cVar 9) (aNil)))) (aCons (cVar 8) (aNil)))) (cC (.int 1))))
  (sIf (cTest (cOp fNe (cCB fRepr (aCons (cOp fIx (cCall 2 g_store_hears (aCons (cVar 5) (aCons (cVar 8) (aNil)))) (cC (.int 1))) (aNil))) (cCB fRepr (aCons (cTup (aCons (cVar 10) (aNil))) (aNil))))) (sRet (cC (.bl false))) (sNil)))))
def turnR2 : CS := sSeq (sSetB 4 (cOp fIx (cCall 2 g_l_heard (aCons (cVar 4) (aCons (cVar 8) (aNil)))) (cC (.int 0))))
  (sSeq (sSetB 5 (cOp fIx (cCall 2 g_store_hears (aCons (cVar 5) (aCons (cVar 8) (aNil)))) (cC (.int 0))))
  (sIf (cTest (cOp fIn (cVar 7) (cTup (aCons (cC (.int 3)) (aCons (cC (.int 7)) (aCons (cC (.int 11)) (aCons (cC (.int 15)) (aNil)))))))) (tellB) (sNil)))
def turnR : CS := sSeq (sSetB 8 (cIf (cTest (cOp fGt (cVar 7) (cC (.int 0)))) (cCall 3 g_l_led_letter (aCons (cVar 1) (aCons (cVar 4) (aCons (cOp fAdd (cVar 7) (cVar 6)) (aNil))))) (cTup (aCons (cC (.str "take")) (aCons (cC (.int 1)) (aNil))))))
  (turnR2)
def turnB : CS := sSeq (sIf (cTest (cOp fEq (cCall 2 g_l_pick (aCons (cVar 1) (aCons (cC (.int 5)) (aNil)))) (cC (.int 0)))) (sTick 4 5 (cTup (aCons (cOp fAdd (cDGet (cVar 4) (cC (.str "time"))) (cC (.int 1))) (aCons (cCall 1 g_ticked (aCons (cVar 5) (aNil))) (aNil))))) (sNil)) (turnR)
def lapB : CS := sSeq (sSetB 3 (cCall 2 g_l_draw_book (aCons (cVar 1) (aCons (cC (.int 5)) (aNil)))))
  (sSeq (sParB 4 5 (aCons (cCall 1 g_l_fresh (aCons (cVar 3) (aNil))) (aCons (cCall 1 g_new_store (aCons (cVar 3) (aNil))) (aNil))))
  (sSeq (sSetB 6 (cOp fMul (cC (.int 20)) (cCall 2 g_l_pick (aCons (cVar 1) (aCons (cC (.int 2)) (aNil))))))
  (sRngB 7 16 (turnB))))
theorem c_law_is : c_law = sSeq (sRngB 2 2 (lapB)) (sRet (cC (.bl true))) := rfl
def ok9 (o : Option D) : Prop := ∀ d, o = some d → no9 d = true
theorem ok9_of {d : D} (h : no9 d = true) : ok9 (some d) := fun x e => by cases e; exact h
theorem ok9_none : ok9 none := fun x e => nomatch e
section
variable {env : Env} {Nx : Env → Prop} {Rt : D → Prop}
theorem x_setB (i : Nat) (c : C) : sSetB i c env Nx Rt = c env fun d => okB d ∧ Nx ⟨env.sl.set i (some d), none⟩ := rfl
theorem x_parB (i j : Nat) (ca : CA) : sParB i j ca env Nx Rt = ca env fun ds => ∃ d1 d2, ds = [d1, d2] ∧ okB d1 ∧ okB d2 ∧ Nx ⟨(env.sl.set i (some d1)).set j (some d2), none⟩ := rfl
end
theorem oth {a0 a1 a2 a3 a4 a5 a6 a7 a8 a9 a10 : Option D} (h0 : ok9 a0) (h1 : ok9 a1) (h2 : ok9 a2) (h3 : ok9 a3) (h6 : ok9 a6) (h7 : ok9 a7) (h8 : ok9 a8) (h9 : ok9 a9) (h10 : ok9 a10) :
    ∀ (l : Nat) (d : D), l ≠ 4 → l ≠ 5 → [a0, a1, a2, a3, a4, a5, a6, a7, a8, a9, a10][l]? = some (some d) → no9 d = true := by
  intro l d n4 n5 e
  match l, n4, n5, e with
  | 0, _, _, e => exact h0 d (by simpa using e)
  | 1, _, _, e => exact h1 d (by simpa using e)
  | 2, _, _, e => exact h2 d (by simpa using e)
  | 3, _, _, e => exact h3 d (by simpa using e)
  | 4, n, _, _ => exact absurd rfl n
  | 5, _, n, _ => exact absurd rfl n
  | 6, _, _, e => exact h6 d (by simpa using e)
  | 7, _, _, e => exact h7 d (by simpa using e)
  | 8, _, _, e => exact h8 d (by simpa using e)
  | 9, _, _, e => exact h9 d (by simpa using e)
  | 10, _, _, e => exact h10 d (by simpa using e)
  | l + 11, _, _, e => simp at e
section
variable {B n : Nat} {b : Book} {o s : St} {a0 a2 a6 a7 a8 a9 a10 : Option D} {Nx : Env → Prop} {Rt : D → Prop}
abbrev slT (a0 a2 : Option D) (b : Book) (o s : St) (a6 a7 a8 a9 a10 : Option D) : List (Option D) := [a0, some .src, a2, some (bookD b), some (stD false o), some (stD false s), a6, a7, a8, a9, a10]
theorem hear_ask {mv : Bool} {s : St} {e : Int} (h : e = s.epoch) : hear mv s (.ask e) = (s, toldD s) := by
  unfold hear
  simp only []
  rw [if_pos h]
theorem p_tell (t : Tw B n b o s) (hB : B ≤ 10 ^ 5) (k : ∀ a8 a9 a10, ok9 a8 → ok9 a9 → ok9 a10 → Nx ⟨slT a0 a2 b o s a6 a7 a8 a9 a10, none⟩) : tellB ⟨slT a0 a2 b o s a6 a7 a8 a9 a10, none⟩ Nx Rt := by
  have ho := t.shO hB
  have hs := t.shS hB
  have ht : Shw (ofTold s) := ⟨i_told t.is, by show SmallB s.book; rw [t.bs]; exact t.sb, B, hB, s_told t.ss⟩
  have eb : bookD b = bookD s.book := by rw [t.bs]
  unfold tellB
  simp only [x_seq, x_setB, x_op, x_call, x_acons, x_anil, x_var, List.getElem?_cons_succ, List.getElem?_cons_zero, x_exo2, x_tup, x_c, x_dget, g_epoch, List.length_cons, List.length_nil]
  refine ⟨by decide, trivial, ?_⟩
  refine p_hears t.is t.is.ok (l := .ask o.epoch) ?_
  rw [hear_ask t.rel.ep]
  simp only [x_ixT, at_1, at_0, x_exo]
  refine ⟨.inl hs.told.n9, ?_⟩
  simp only [List.set_cons_succ, List.set_cons_zero, x_if, x_or, x_test, x_op, x_cb, x_call, x_acons, x_anil, x_var, List.getElem?_cons_succ, List.getElem?_cons_zero, x_exo2, x_tup, x_c, x_dget, g_epoch, List.length_cons, List.length_nil]
  rw [x_repr hs.told (by decide) (by decide)]
  refine ⟨by decide, trivial, ?_⟩
  refine p_lheard t.io ho.named (l := .ask o.epoch) ?_
  rw [hear_ask rfl]
  simp only [x_ixT, at_1, at_0, x_exo]
  rw [t.rel.toldD t.io, x_repr hs.told (by decide) (by decide), x_neS, isB_bl]
  simp only [decide_true, Bool.not_true, Bool.false_eq_true, if_false, x_not, x_tru, x_call, x_acons, x_anil, x_var, List.getElem?_cons_succ, List.getElem?_cons_zero, x_exo2, List.length_cons, List.length_nil]
  refine ⟨trivial, ?_⟩
  rw [eb]
  refine p_oftold t.is ⟨trivial, ?_⟩
  refine p_follows ht hs (r_told s) ?_
  simp only [isTr_b, Bool.not_true, Bool.false_eq_true, if_false, x_nil, x_call, x_acons, x_anil, x_var, List.getElem?_cons_succ, List.getElem?_cons_zero, x_exo2, List.length_cons, List.length_nil]
  refine ⟨trivial, ?_⟩
  refine p_letter ho t.so hB fun l hl1 hl2 => ⟨.inl (n9_let ho hB t.so hl1), ?_⟩
  simp only [List.set_cons_succ, List.set_cons_zero, x_op, x_call, x_acons, x_anil, x_var, List.getElem?_cons_succ, List.getElem?_cons_zero, x_exo2, x_c, List.length_cons, List.length_nil]
  refine ⟨trivial, ?_⟩
  refine p_oftold t.is ⟨trivial, ?_⟩
  refine p_lheard (i_told t.is) ht.named (l := l) ?_
  have ha := ht.ans hB (s_told t.ss) hl1 (mv := true)
  have he : (hear true (ofTold s) l).2 = (hear false s l).2 := ((r_told s).hear (i_told t.is) l).2
  simp only [x_ixT, at_1, at_0, x_exo]
  refine ⟨.inl ha.n9, ?_⟩
  refine ⟨trivial, ?_⟩
  refine p_hears t.is t.is.ok (l := l) ?_
  have h1 : Sz 40000 6 (.tup [(hear true (ofTold s) l).2]) := szT (m := 1) (aC ha aN) (by simp) (by decide) (by decide)
  simp only [x_ixT, at_1, at_0, x_exo]
  rw [← he, x_repr h1 (by decide) (by decide)]
  refine ⟨by decide, ?_⟩
  rw [x_repr h1 (by decide) (by decide), x_neS, isB_bl]
  simp only [decide_true, Bool.not_true, Bool.false_eq_true, if_false, x_nil]
  rw [← eb]
  exact k _ _ _ (ok9_of (n9_let ho hB t.so hl1)) (ok9_of hs.told.n9) (ok9_of ha.n9)
theorem in_any {i : Int} {xs : List Int} {Q : D → Prop} (h : ∀ x, Q (.bl x)) : fIn (.int i) (.tup (xs.map .int)) Q := by
  show ∃ x, inD _ _ = some x ∧ Q (.bl x)
  have hh : ∀ xs : List Int, ∃ x, inD (.int i) (xs.map .int) = some x := by
    intro xs
    induction xs with
    | nil => exact ⟨_, rfl⟩
    | cons y ys ih =>
      obtain ⟨x, hx⟩ := ih
      refine ⟨decide (y = i) || x, ?_⟩
      simp only [inD, List.map_cons, List.foldr_cons] at hx ⊢
      rw [hx]
  obtain ⟨x, hx⟩ := hh xs
  exact ⟨x, hx, h x⟩
theorem p_turnR (t : Tw B n b o s) (hB : B ≤ 10 ^ 4) (hn : n < 1000) {turn lead : Int} (h0 : ok9 a0) (h2 : ok9 a2)
    (k : ∀ o' s' a8 a9 a10, Tw (B + 4) (n + 1) b o' s' → ok9 a8 → ok9 a9 → ok9 a10 → Nx ⟨slT a0 a2 b o' s' (some (.int lead)) (some (.int turn)) a8 a9 a10, none⟩) (h9 : ok9 a9) (h10 : ok9 a10) : turnR ⟨slT a0 a2 b o s (some (.int lead)) (some (.int turn)) a8 a9 a10, none⟩ Nx Rt := by
  have hB5 : B ≤ 10 ^ 5 := Nat.le_trans hB (by decide)
  have ho := t.shO hB5
  have hs := t.shS hB5
  have fin : ∀ l, LtSm B l → LtOk l → (okB (letD l) ∧ turnR2 ⟨slT a0 a2 b o s (some (.int lead)) (some (.int turn)) (some (letD l)) a9 a10, none⟩ Nx Rt) := by
    intro l hl1 hl2
    have n9l := n9_let ho hB5 t.so hl1
    have t' := t.hear hn hl1 hl2
    have hB5' : B + 4 ≤ 10 ^ 5 := by omega
    have ho' := t'.shO hB5'
    have hs' := t'.shS hB5'
    refine ⟨.inl n9l, ?_⟩
    unfold turnR2
    simp only [x_seq, x_setB, x_op, x_call, x_acons, x_anil, x_var, List.getElem?_cons_succ, List.getElem?_cons_zero, x_exo2, x_c, List.length_cons, List.length_nil]
    refine ⟨trivial, p_lheard t.io ho.named (l := l) ?_⟩
    simp only [x_ixT, at_1, at_0, x_exo]
    refine ⟨ok_st ho' t'.fo, ?_⟩
    simp only [List.set_cons_succ, List.set_cons_zero, x_op, x_call, x_acons, x_anil, x_var, List.getElem?_cons_succ, List.getElem?_cons_zero, x_exo2, x_c, List.length_cons, List.length_nil]
    refine ⟨trivial, p_hears t.is t.is.ok (l := l) ?_⟩
    simp only [x_ixT, at_1, at_0, x_exo]
    refine ⟨ok_st hs' t'.fs, ?_⟩
    simp only [List.set_cons_succ, List.set_cons_zero, x_if, x_test, x_op, x_tup, x_acons, x_anil, x_var, List.getElem?_cons_succ, List.getElem?_cons_zero, x_exo2, x_c, List.length_cons, List.length_nil]
    refine ⟨by decide, in_any (xs := [3, 7, 11, 15]) fun x => ?_⟩
    rw [isB_bl]
    cases x with
    | true => exact p_tell t' hB5' fun a8 a9 a10 z8 z9 z10 => k _ _ _ _ _ t' z8 z9 z10
    | false => exact k _ _ _ _ _ t' (ok9_of n9l) h9 h10
  unfold turnR
  simp only [x_seq, x_setB, x_ifE, x_test, x_op, x_call, x_tup, x_acons, x_anil, x_var, List.getElem?_cons_succ, List.getElem?_cons_zero, x_exo2, x_c, x_gt, isB_bl, x_add, List.length_cons, List.length_nil]
  split
  · exact ⟨trivial, p_led ho t.so hB5 _ fun l hl1 hl2 => fin l hl1 hl2⟩
  · exact ⟨by decide, fin (.take 1) (by show (1 : Int).natAbs ≤ _; omega) trivial⟩
theorem p_turn (t : Tw B n b o s) (hB : B + 1 ≤ 10 ^ 4) (hn : n < 1000) {turn lead : Int} (h0 : ok9 a0) (h2 : ok9 a2)
    (k : ∀ o' s' a8 a9 a10, Tw (B + 5) (n + 1) b o' s' → ok9 a8 → ok9 a9 → ok9 a10 → Nx ⟨slT a0 a2 b o' s' (some (.int lead)) (some (.int turn)) a8 a9 a10, none⟩) (h8 : ok9 a8) (h9 : ok9 a9) (h10 : ok9 a10) : turnB ⟨slT a0 a2 b o s (some (.int lead)) (some (.int turn)) a8 a9 a10, none⟩ Nx Rt := by
  have hB5 : B ≤ 10 ^ 5 := by omega
  have hB6 : B + 1 ≤ 10 ^ 5 := by omega
  have ho := t.shO hB5
  have hs := t.shS hB5
  unfold turnB
  simp only [x_seq, x_if, x_test, x_op, x_call, x_acons, x_anil, x_var, List.getElem?_cons_succ, List.getElem?_cons_zero, x_exo2, x_c, List.length_cons, List.length_nil, x_pick]
  refine ⟨trivial, by decide, fun r _ _ => ?_⟩
  rw [x_eqI, isB_bl]
  split
  · have t' := t.tick
    have ho' := t'.shO hB6
    have hs' := t'.shS hB6
    refine ⟨by decide, flds false o, o.time, rfl, flds_len, f_time, oth h0 (ok9_of (by simp [no9])) h2 (ok9_of (by rw [← t.bs]; exact n9_book hs.sb)) (ok9_of (by simp [no9])) (ok9_of (by simp [no9])) h8 h9 h10, ?_⟩
    simp only [x_op, x_tup, x_dget, x_call, x_acons, x_anil, x_var, List.getElem?_cons_succ, List.getElem?_cons_zero, x_exo2, x_c, List.length_cons, List.length_nil, g_time, x_add]
    refine ⟨trivial, p_ticked.mpr ⟨by decide, ?_⟩⟩
    refine ⟨_, flds false (tickS s), s.time + 1, rfl, flds_len, n9_flds hs' t'.fs, f_time, by rw [t.rel.ti]; omega, ?_⟩
    rw [set_time]
    refine ⟨flds_len, n9_flds ho' t'.fo, ?_⟩
    simp only [List.set_cons_succ, List.set_cons_zero]
    exact p_turnR t' (by omega) hn h0 h2 (fun o' s' a8 a9 a10 z => k o' s' a8 a9 a10 (z.mono (by omega) (Nat.le_refl _))) h9 h10
  · exact p_turnR t (by omega) hn h0 h2 (fun o' s' a8 a9 a10 z => k o' s' a8 a9 a10 (z.mono (by omega) (Nat.le_refl _))) h9 h10
/-- what the lap's loop keeps -/
def LapI (sl : List (Option D)) : Prop := ∃ a0 a2 a3 a4 a5 a6 a7 a8 a9 a10, sl = [a0, some .src, a2, a3, a4, a5, a6, a7, a8, a9, a10] ∧ ok9 a0 ∧ ok9 a2 ∧ ok9 a8 ∧ ok9 a9 ∧ ok9 a10
theorem p_lap {a3 a4 a5 : Option D} (h0 : ok9 a0) (h2 : ok9 a2) (h8 : ok9 a8) (h9 : ok9 a9) (h10 : ok9 a10) (k : ∀ sl, LapI sl → Nx ⟨sl, none⟩) : lapB ⟨[a0, some .src, a2, a3, a4, a5, a6, a7, a8, a9, a10], none⟩ Nx Rt := by
  unfold lapB
  simp only [x_seq, x_setB, x_call, x_acons, x_anil, x_var, List.getElem?_cons_succ, List.getElem?_cons_zero, x_exo2, x_c, List.length_cons, List.length_nil]
  refine ⟨trivial, p_book fun b hb sb => ⟨.inl (n9_book sb), ?_⟩⟩
  have t := tw0 hb sb
  have hB5 : 0 ≤ 10 ^ 5 := by decide
  have ho := t.shO hB5
  simp only [List.set_cons_succ, List.set_cons_zero, x_parB, x_call, x_acons, x_anil, x_var, List.getElem?_cons_succ, List.getElem?_cons_zero, x_exo2, x_c, List.length_cons, List.length_nil]
  refine ⟨trivial, p_fresh ⟨trivial, (p_new b).mpr ?_⟩⟩
  refine ⟨_, _, rfl, ok_st ho t.fo, ok_st (s := st0 b) ho t.fo, ?_⟩
  simp only [List.set_cons_succ, List.set_cons_zero, x_op, x_call, x_acons, x_anil, x_var, List.getElem?_cons_succ, List.getElem?_cons_zero, x_exo2, x_c, List.length_cons, List.length_nil, x_pick]
  refine ⟨trivial, by decide, fun r _ _ => ?_⟩
  refine ⟨.inl ⟨by decide, by decide⟩, .inl (by simp [no9]), ?_⟩
  refine ⟨fun j sl => ∃ o s a7 a8 a9 a10, sl = slT a0 a2 b o s (some (.int (20 * r))) a7 a8 a9 a10 ∧ Tw (5 * j) j b o s ∧ ok9 a8 ∧ ok9 a9 ∧ ok9 a10, ⟨_, _, _, _, _, _, rfl, t, h8, h9, h10⟩, ?_, ?_⟩
  · rintro j sl hj ⟨o, s, a7, a8, a9, a10, rfl, t, h8, h9, h10⟩
    simp only [List.set_cons_succ, List.set_cons_zero]
    refine p_turn t (by omega) (by omega) h0 h2 (fun o' s' a8 a9 a10 t' z8 z9 z10 => ⟨_, _, _, _, _, _, rfl, by rw [Nat.mul_succ]; exact t', z8, z9, z10⟩) h8 h9 h10
  · rintro sl ⟨o, s, a7, a8, a9, a10, rfl, t, h8, h9, h10⟩
    exact k _ ⟨_, _, _, _, _, _, _, _, _, _, rfl, h0, h2, h8, h9, h10⟩
theorem p_lawB : c_law ⟨[none, some .src, none, none, none, none, none, none, none, none, none], none⟩ Nx (fun d => d = .bl true) := by
  rw [c_law_is]
  rw [x_seq]
  refine ⟨fun _ sl => LapI sl, ⟨_, _, _, _, _, _, _, _, _, _, rfl, ok9_none, ok9_none, ok9_none, ok9_none, ok9_none⟩, ?_, fun sl _ => rfl⟩
  rintro j sl hj ⟨a0, a2, a3, a4, a5, a6, a7, a8, a9, a10, rfl, h0, h2, h8, h9, h10⟩
  simp only [List.set_cons_succ, List.set_cons_zero]
  exact p_lap h0 (ok9_of (by simp [no9])) h8 h9 h10 fun sl z => z
end
end E64
/-! the law's def -/
namespace E64
open PySem PySem.Spec PyProof.Rows L2
def spLaw (K : PySem.W.Frag) : Sp := fun vs H Q _ => Only H ∧ ∃ (a : Addr) (ns : List Int), vs = [.ref a] ∧ SqL K H a (ns.map V.int) ∧ ns.length ≤ 1000 ∧ ∀ H', Q (.bl true) H'
def t_law (K : PySem.W.Frag) : TS := tSeq (tAsg (tCall (spOpen K) [] E0 (tCons (tVar 0) tNil)) (gName 1)) (tSB K c_law)
theorem src_st {K : PySem.W.Frag} {H : Hp} {p c a : Addr} {cs : List Int} {m : Int} (h1 : H c = some (.lst (cs.map V.int))) (h2 : H p = some (.dK (srcD c 1 m 0))) :
    BigSt K [some (.ref a), some (.ref p), none, none, none, none, none, none, none, none, none] H [none, some .src, none, none, none, none, none, none, none, none, none] := by
  refine ⟨⟨p, c⟩, fun _ => none, ⟨⟨(fun _ _ e => by cases e), (fun _ _ _ e => by cases e)⟩, rfl, rfl, cs, 1, m, 0, h2, h1⟩, rfl, fun i d e => ?_⟩
  match i, e with
  | 1, e =>
    have e : some (some D.src) = some (some d) := e
    cases e
    exact ⟨.ref p, rfl, .inl ⟨by simp [no9], Rep.src⟩⟩
  | 0, e => cases e
  | 2, e => cases e
  | 3, e => cases e
  | 4, e => cases e
  | 5, e => cases e
  | 6, e => cases e
  | 7, e => cases e
  | 8, e => cases e
  | 9, e => cases e
  | 10, e => cases e
  | i + 11, e => cases e
theorem pure_law {K : PySem.W.Frag} (vs : List V) (H : Hp) (Q : VK) (E : XK) (h : spLaw K vs H Q E) : t_law K { nx := fun _ H' => Q .non H', rt := Q } (L2.start N_law vs) H := by
  obtain ⟨_, a, ns, rfl, hS, hl, k⟩ := h
  refine ⟨_, rfl, ?_⟩
  refine ⟨a, ns, rfl, hS, hl, fun H' p c cs m _ _ _ h1 h2 => ?_⟩
  refine ⟨_, _, _, src_st h1 h2, p_lawB (Nx := fun _ => False), fun _ _ _ z => z.elim, fun d v S R' H'' e _ r => ?_⟩
  subst e
  cases r
  exact k _
section
variable {P : Program} {w : World} {K : PySem.W.Frag} {mg : Str → Option Value} {base : Heap} {f : Addr} {fd : FuncData}
theorem w_law (B : Bl mg) (h_open : ∃ (f : Addr) (fd : FuncData) (ps : List Str), FnOk P w K mg base CX0 1 f fd ps (spOpen K) ∧ mg "_law_open_cells" = some (.ref f) ∧ PySem.W.keepIn K (.ref f) = true ∧ Binds K fd ps [])
    (h_l_draw_book : Fn P w K mg base 6 2 "_law_draw_book" g_l_draw_book) (h_new_store : Fn P w K mg base 1 1 "new_store" g_new_store) (h_l_fresh : Fn P w K mg base 1 1 "_law_fresh" g_l_fresh) (h_l_pick : Fn P w K mg base 1 2 "_law_pick" g_l_pick) (h_ticked : Fn P w K mg base 2 1 "ticked" g_ticked) (h_l_led_letter : Fn P w K mg base 6 3 "_law_led_letter" g_l_led_letter) (h_l_heard : Fn P w K mg base 6 2 "_law_heard" g_l_heard) (h_store_hears : Fn P w K mg base 7 2 "store_hears" g_store_hears) (h_l_follows : FnGn P w K mg base 6 2 "_law_follows" g_l_follows) (h_l_of_told : Fn P w K mg base 1 2 "_law_of_told" g_l_of_told) (h_l_draw_letter : Fn P w K mg base 5 2 "_law_draw_letter" g_l_draw_letter)
    (F : FunD K "law" "law" (defArgs s_law) (defBody s_law) (defScope s_law) [] [] f fd) : FnG P w K mg base CX0 8 f fd ["_law_script"] (spLaw K) := by
  obtain ⟨f1, fd1, ps1, F1, hm1, kp1, hb1⟩ := h_open
  refine fnG F sc_law (fun vs H Q E ⟨_, a, ns, e, _⟩ => by rw [e]; rfl) fun cdv A outer s H vs Q E hr hgd h => ⟨t_law K, PSs.nox ?_, pure_law vs H Q E h⟩
  have nd := sc_law.nd
  exact pss_cons (ps_set nd rfl (.inl rfl) (pe_call (E := E0) F1 (hr.mono (by decide)) rfl hm1 kp1 hb1 .nil pass0 (pa_cons (pv 0) pa_nil)))
    (bs_law (k := 7) (by decide) B h_l_draw_book h_new_store h_l_fresh h_l_pick h_ticked h_l_led_letter h_l_heard h_store_hears h_l_follows h_l_of_told h_l_draw_letter cdv A outer s H E h.1 hr hgd)
end
end E64
/-! the head: facts of the defs by names -/
namespace E64
open PySem PySem.Spec PyProof.Rows L2
def dd (x : Str) (i : Nat) : He.DefD := ⟨(x, none), x, x, defArgs (top i), defBody (top i), defScope (top i), [], []⟩
def fnsD : List He.DefD := [dd "names_of_jobs" 1, dd "job_of" 2, dd "new_store" 4, dd "ends_in" 5, dd "outcome_in" 6, dd "has_ended" 7, dd "is_done_in" 8, dd "results_in" 9, dd "attempt_in" 10, dd "free_units" 11, dd "still_open" 12, dd "hindering_needs" 13, dd "bars_grant" 14, dd "bar_need" 15, dd "store_copied" 16, dd "ticked" 17, dd "told_of_store" 18, dd "without_hold" 19, dd "store_written" 20, dd "hear_take" 21, dd "hear_grant" 22, dd "hear_free" 23, dd "hear_bar" 24, dd "hear_end" 25, dd "hear_ask" 26, dd "store_hears" 28, dd "_law_open_cells" 30, dd "_law_pick" 31, dd "_law_any_order" 32, dd "_law_draw_value" 33, dd "_law_draw_command" 34, dd "_law_draw_book" 35, dd "_law_job" 36, dd "_law_fresh" 37, dd "_law_outcome_of" 38, dd "_law_waits" 39, dd "_law_left" 40, dd "_law_hindered" 41, dd "_law_barring" 42, dd "_law_values" 43, dd "_law_changed" 44, dd "_law_with" 45, dd "_law_by_keeper" 46, dd "_law_heard" 47, dd "_law_draw_letter" 48, dd "_law_of_told" 49, dd "_law_follows" 50, dd "_law_led_letter" 51, dd "law" 52]
def fasD : List He.Fa := [.glo "names_of_jobs", .glo "job_of", .glo "new_store", .glo "ends_in", .glo "outcome_in", .glo "has_ended", .glo "is_done_in", .glo "results_in", .glo "attempt_in", .glo "free_units", .glo "still_open", .glo "hindering_needs", .glo "bars_grant", .glo "bar_need", .glo "store_copied", .glo "ticked", .glo "told_of_store", .glo "without_hold", .glo "store_written", .glo "hear_take", .glo "hear_grant", .glo "hear_free", .glo "hear_bar", .glo "hear_end", .glo "hear_ask", .glo "store_hears", .glo "_law_open_cells", .glo "_law_pick", .glo "_law_any_order", .glo "_law_draw_value", .glo "_law_draw_command", .glo "_law_draw_book", .glo "_law_job", .glo "_law_fresh", .glo "_law_outcome_of", .glo "_law_waits", .glo "_law_left", .glo "_law_hindered", .glo "_law_barring", .glo "_law_values", .glo "_law_changed", .glo "_law_with", .glo "_law_by_keeper", .glo "_law_heard", .glo "_law_draw_letter", .glo "_law_of_told", .glo "_law_follows", .glo "_law_led_letter", .glo "law", .glo "HEARD", .free "len", .free "tuple", .free "dict", .free "list", .free "sorted", .free "repr", .free "range", .free "int", .free "abs", .free "max", .free "enumerate"]
def tabsD : List He.Tab := [(fun K => He.ga K "HEARD", ["grant", "free", "bar", "ask"])]
def kvsD : List (Str × He.Dv) := [("grant", .glo "hear_grant"), ("free", .glo "hear_free"), ("bar", .glo "hear_bar"), ("ask", .glo "hear_ask")]
abbrev AlV : Type := He.AlT × Bool
def obsV (K : PySem.W.Frag) : AlV := (He.obsT fasD fnsD tabsD K, He.valsB K (He.ga K "HEARD") kvsD)
def valV (w : World) : AlV := (He.valT fnsD tabsD w, true)
def obsVG (n : Nat) (g : Addr → Option Obj) : AlV := obsV (He.frG g (He.asD g n))
def SaysV (w : World) (K : PySem.W.Frag) : Prop := obsV K = valV w
def hookV (n : Nat) : PySem.W.Hook where
  α := AlV
  obs := fun s => obsVG n s.heap.get?
  val := fun w => valV w
  says := fun w h => ∃ K : PySem.W.Frag, K.In h ∧ SaysV w K
  of := fun _ _ e => ⟨_, He.frG_in, e⟩
  keeps := fun _ _ _ ⟨K, hK, c⟩ k => ⟨K, PySem.W.Frag.In.keeps hK k, c⟩
theorem obsVG_eq {n : Nat} {g : Addr → Option Obj} {s : Shared} (h : ∀ a, g a = s.heap.get? a) : obsVG n g = (hookV n).obs s := by
  have e : g = s.heap.get? := funext h
  rw [e] <;> rfl
theorem SaysV.t {w : World} {K : PySem.W.Frag} (c : SaysV w K) : He.SaysT fasD fnsD tabsD w K := congrArg (fun z : AlV => z.1) c
theorem SaysV.v {w : World} {K : PySem.W.Frag} (c : SaysV w K) : He.valsB K (He.ga K "HEARD") kvsD = true := congrArg (fun z : AlV => z.2) c
theorem tab_one {P : Program} {w : World} {K : PySem.W.Frag} {mg : Str → Option Value} {base : Heap} {j k n : Nat} {x y : Str} {g : List D → (D → Prop) → Prop} {a : Addr} (hv : He.valsB K a kvsD = true) (hq : (y, He.Dv.glo x) ∈ kvsD) (gx : mg x = some (.ref (He.ga K x))) (F : Fn P w K mg base j n x g) (hj : j ≤ k) :
    ∃ (f : Addr) (fd : FuncData) (ps : List Str), PySem.W.nsIn K a y = some (some (.ref f)) ∧ FnOk P w K mg base CX0 k f fd ps (spD K n g) ∧ PySem.W.keepIn K (.ref f) = true ∧ Binds K fd ps [] := by
  obtain ⟨f, fd, ps, h1, h2, h3, h4⟩ := F.ex
  obtain ⟨u, e1, e2⟩ := He.valsB_ok hv hq
  rw [gx] at h2
  cases h2
  have e2 : u = .ref (He.ga K x) := e2
  subst e2
  exact ⟨_, fd, ps, e1, h1.mono hj, h3, h4⟩
theorem facts {P : Program} {w : World} {K : PySem.W.Frag} {h : Heap} {mg : Str → Option Value} {f : Addr} (X : K.In h) (G : h.Ns mainGlobals mg) (hfa : mg ("law" : Str) = some (.ref f)) (c : SaysV w K) :
    ∃ fd : FuncData, (∀ (s : Shared) (v : Value), BindsTo s fd ⟨[v], []⟩ [("_law_script", v)]) ∧ ∀ base : Heap, K.In base → base.Ns mainGlobals mg → FnG P w K mg base CX0 8 f fd ["_law_script"] (spLaw K) := by
  have cd := c.t.d
  obtain ⟨fd0, F0⟩ := cd.def_ 0 (d := dd "names_of_jobs" 1) rfl
  have g0 := He.glo_ok X G (cd.fact 0 (f := .glo "names_of_jobs") rfl)
  obtain ⟨fd1, F1⟩ := cd.def_ 1 (d := dd "job_of" 2) rfl
  have g1 := He.glo_ok X G (cd.fact 1 (f := .glo "job_of") rfl)
  obtain ⟨fd2, F2⟩ := cd.def_ 2 (d := dd "new_store" 4) rfl
  have g2 := He.glo_ok X G (cd.fact 2 (f := .glo "new_store") rfl)
  obtain ⟨fd3, F3⟩ := cd.def_ 3 (d := dd "ends_in" 5) rfl
  have g3 := He.glo_ok X G (cd.fact 3 (f := .glo "ends_in") rfl)
  obtain ⟨fd4, F4⟩ := cd.def_ 4 (d := dd "outcome_in" 6) rfl
  have g4 := He.glo_ok X G (cd.fact 4 (f := .glo "outcome_in") rfl)
  obtain ⟨fd5, F5⟩ := cd.def_ 5 (d := dd "has_ended" 7) rfl
  have g5 := He.glo_ok X G (cd.fact 5 (f := .glo "has_ended") rfl)
  obtain ⟨fd6, F6⟩ := cd.def_ 6 (d := dd "is_done_in" 8) rfl
  have g6 := He.glo_ok X G (cd.fact 6 (f := .glo "is_done_in") rfl)
  obtain ⟨fd7, F7⟩ := cd.def_ 7 (d := dd "results_in" 9) rfl
  have g7 := He.glo_ok X G (cd.fact 7 (f := .glo "results_in") rfl)
  obtain ⟨fd8, F8⟩ := cd.def_ 8 (d := dd "attempt_in" 10) rfl
  have g8 := He.glo_ok X G (cd.fact 8 (f := .glo "attempt_in") rfl)
  obtain ⟨fd9, F9⟩ := cd.def_ 9 (d := dd "free_units" 11) rfl
  have g9 := He.glo_ok X G (cd.fact 9 (f := .glo "free_units") rfl)
  obtain ⟨fd10, F10⟩ := cd.def_ 10 (d := dd "still_open" 12) rfl
  have g10 := He.glo_ok X G (cd.fact 10 (f := .glo "still_open") rfl)
  obtain ⟨fd11, F11⟩ := cd.def_ 11 (d := dd "hindering_needs" 13) rfl
  have g11 := He.glo_ok X G (cd.fact 11 (f := .glo "hindering_needs") rfl)
  obtain ⟨fd12, F12⟩ := cd.def_ 12 (d := dd "bars_grant" 14) rfl
  have g12 := He.glo_ok X G (cd.fact 12 (f := .glo "bars_grant") rfl)
  obtain ⟨fd13, F13⟩ := cd.def_ 13 (d := dd "bar_need" 15) rfl
  have g13 := He.glo_ok X G (cd.fact 13 (f := .glo "bar_need") rfl)
  obtain ⟨fd14, F14⟩ := cd.def_ 14 (d := dd "store_copied" 16) rfl
  have g14 := He.glo_ok X G (cd.fact 14 (f := .glo "store_copied") rfl)
  obtain ⟨fd15, F15⟩ := cd.def_ 15 (d := dd "ticked" 17) rfl
  have g15 := He.glo_ok X G (cd.fact 15 (f := .glo "ticked") rfl)
  obtain ⟨fd16, F16⟩ := cd.def_ 16 (d := dd "told_of_store" 18) rfl
  have g16 := He.glo_ok X G (cd.fact 16 (f := .glo "told_of_store") rfl)
  obtain ⟨fd17, F17⟩ := cd.def_ 17 (d := dd "without_hold" 19) rfl
  have g17 := He.glo_ok X G (cd.fact 17 (f := .glo "without_hold") rfl)
  obtain ⟨fd18, F18⟩ := cd.def_ 18 (d := dd "store_written" 20) rfl
  have g18 := He.glo_ok X G (cd.fact 18 (f := .glo "store_written") rfl)
  obtain ⟨fd19, F19⟩ := cd.def_ 19 (d := dd "hear_take" 21) rfl
  have g19 := He.glo_ok X G (cd.fact 19 (f := .glo "hear_take") rfl)
  obtain ⟨fd20, F20⟩ := cd.def_ 20 (d := dd "hear_grant" 22) rfl
  have g20 := He.glo_ok X G (cd.fact 20 (f := .glo "hear_grant") rfl)
  obtain ⟨fd21, F21⟩ := cd.def_ 21 (d := dd "hear_free" 23) rfl
  have g21 := He.glo_ok X G (cd.fact 21 (f := .glo "hear_free") rfl)
  obtain ⟨fd22, F22⟩ := cd.def_ 22 (d := dd "hear_bar" 24) rfl
  have g22 := He.glo_ok X G (cd.fact 22 (f := .glo "hear_bar") rfl)
  obtain ⟨fd23, F23⟩ := cd.def_ 23 (d := dd "hear_end" 25) rfl
  have g23 := He.glo_ok X G (cd.fact 23 (f := .glo "hear_end") rfl)
  obtain ⟨fd24, F24⟩ := cd.def_ 24 (d := dd "hear_ask" 26) rfl
  have g24 := He.glo_ok X G (cd.fact 24 (f := .glo "hear_ask") rfl)
  obtain ⟨fd25, F25⟩ := cd.def_ 25 (d := dd "store_hears" 28) rfl
  have g25 := He.glo_ok X G (cd.fact 25 (f := .glo "store_hears") rfl)
  obtain ⟨fd26, F26⟩ := cd.def_ 26 (d := dd "_law_open_cells" 30) rfl
  have g26 := He.glo_ok X G (cd.fact 26 (f := .glo "_law_open_cells") rfl)
  obtain ⟨fd27, F27⟩ := cd.def_ 27 (d := dd "_law_pick" 31) rfl
  have g27 := He.glo_ok X G (cd.fact 27 (f := .glo "_law_pick") rfl)
  obtain ⟨fd28, F28⟩ := cd.def_ 28 (d := dd "_law_any_order" 32) rfl
  have g28 := He.glo_ok X G (cd.fact 28 (f := .glo "_law_any_order") rfl)
  obtain ⟨fd29, F29⟩ := cd.def_ 29 (d := dd "_law_draw_value" 33) rfl
  have g29 := He.glo_ok X G (cd.fact 29 (f := .glo "_law_draw_value") rfl)
  obtain ⟨fd30, F30⟩ := cd.def_ 30 (d := dd "_law_draw_command" 34) rfl
  have g30 := He.glo_ok X G (cd.fact 30 (f := .glo "_law_draw_command") rfl)
  obtain ⟨fd31, F31⟩ := cd.def_ 31 (d := dd "_law_draw_book" 35) rfl
  have g31 := He.glo_ok X G (cd.fact 31 (f := .glo "_law_draw_book") rfl)
  obtain ⟨fd32, F32⟩ := cd.def_ 32 (d := dd "_law_job" 36) rfl
  have g32 := He.glo_ok X G (cd.fact 32 (f := .glo "_law_job") rfl)
  obtain ⟨fd33, F33⟩ := cd.def_ 33 (d := dd "_law_fresh" 37) rfl
  have g33 := He.glo_ok X G (cd.fact 33 (f := .glo "_law_fresh") rfl)
  obtain ⟨fd34, F34⟩ := cd.def_ 34 (d := dd "_law_outcome_of" 38) rfl
  have g34 := He.glo_ok X G (cd.fact 34 (f := .glo "_law_outcome_of") rfl)
  obtain ⟨fd35, F35⟩ := cd.def_ 35 (d := dd "_law_waits" 39) rfl
  have g35 := He.glo_ok X G (cd.fact 35 (f := .glo "_law_waits") rfl)
  obtain ⟨fd36, F36⟩ := cd.def_ 36 (d := dd "_law_left" 40) rfl
  have g36 := He.glo_ok X G (cd.fact 36 (f := .glo "_law_left") rfl)
  obtain ⟨fd37, F37⟩ := cd.def_ 37 (d := dd "_law_hindered" 41) rfl
  have g37 := He.glo_ok X G (cd.fact 37 (f := .glo "_law_hindered") rfl)
  obtain ⟨fd38, F38⟩ := cd.def_ 38 (d := dd "_law_barring" 42) rfl
  have g38 := He.glo_ok X G (cd.fact 38 (f := .glo "_law_barring") rfl)
  obtain ⟨fd39, F39⟩ := cd.def_ 39 (d := dd "_law_values" 43) rfl
  have g39 := He.glo_ok X G (cd.fact 39 (f := .glo "_law_values") rfl)
  obtain ⟨fd40, F40⟩ := cd.def_ 40 (d := dd "_law_changed" 44) rfl
  have g40 := He.glo_ok X G (cd.fact 40 (f := .glo "_law_changed") rfl)
  obtain ⟨fd41, F41⟩ := cd.def_ 41 (d := dd "_law_with" 45) rfl
  have g41 := He.glo_ok X G (cd.fact 41 (f := .glo "_law_with") rfl)
  obtain ⟨fd42, F42⟩ := cd.def_ 42 (d := dd "_law_by_keeper" 46) rfl
  have g42 := He.glo_ok X G (cd.fact 42 (f := .glo "_law_by_keeper") rfl)
  obtain ⟨fd43, F43⟩ := cd.def_ 43 (d := dd "_law_heard" 47) rfl
  have g43 := He.glo_ok X G (cd.fact 43 (f := .glo "_law_heard") rfl)
  obtain ⟨fd44, F44⟩ := cd.def_ 44 (d := dd "_law_draw_letter" 48) rfl
  have g44 := He.glo_ok X G (cd.fact 44 (f := .glo "_law_draw_letter") rfl)
  obtain ⟨fd45, F45⟩ := cd.def_ 45 (d := dd "_law_of_told" 49) rfl
  have g45 := He.glo_ok X G (cd.fact 45 (f := .glo "_law_of_told") rfl)
  obtain ⟨fd46, F46⟩ := cd.def_ 46 (d := dd "_law_follows" 50) rfl
  have g46 := He.glo_ok X G (cd.fact 46 (f := .glo "_law_follows") rfl)
  obtain ⟨fd47, F47⟩ := cd.def_ 47 (d := dd "_law_led_letter" 51) rfl
  have g47 := He.glo_ok X G (cd.fact 47 (f := .glo "_law_led_letter") rfl)
  obtain ⟨fd48, F48⟩ := cd.def_ 48 (d := dd "law" 52) rfl
  have g48 := He.glo_ok X G (cd.fact 48 (f := .glo "law") rfl)
  have hT := He.glo_ok X G (cd.fact 49 (f := .glo "HEARD") rfl)
  have B : Bl mg := ⟨He.free_ok X G (cd.fact 50 (f := .free "len") rfl), He.free_ok X G (cd.fact 51 (f := .free "tuple") rfl), He.free_ok X G (cd.fact 52 (f := .free "dict") rfl), He.free_ok X G (cd.fact 53 (f := .free "list") rfl), He.free_ok X G (cd.fact 54 (f := .free "sorted") rfl), He.free_ok X G (cd.fact 55 (f := .free "repr") rfl), He.free_ok X G (cd.fact 56 (f := .free "range") rfl), He.free_ok X G (cd.fact 57 (f := .free "int") rfl), He.free_ok X G (cd.fact 58 (f := .free "abs") rfl), He.free_ok X G (cd.fact 59 (f := .free "max") rfl), He.free_ok X G (cd.fact 60 (f := .free "enumerate") rfl)⟩
  have e := hfa.symm.trans g48
  cases e
  have b := FunD.bindsA (ps := ["_law_script"]) F48 fun _ _ _ _ _ _ us hl => match us, hl with | [_], _ => rfl
  refine ⟨fd48, fun s v => b s [v] rfl, fun base _ _ => ?_⟩
  have H_l_pick : Fn P w K mg base 1 2 "_law_pick" g_l_pick := w_l_pick B F27 g27
  have H_l_any_order : Fn P w K mg base 2 2 "_law_any_order" g_l_any_order := w_l_any_order B H_l_pick F28 g28
  have H_l_draw_value : Fn P w K mg base 2 1 "_law_draw_value" g_l_draw_value := w_l_draw_value B H_l_pick F29 g29
  have H_l_draw_command : Fn P w K mg base 5 3 "_law_draw_command" g_l_draw_command := w_l_draw_command B H_l_pick H_l_draw_value F30 g30
  have H_l_draw_book : Fn P w K mg base 6 2 "_law_draw_book" g_l_draw_book := w_l_draw_book B H_l_any_order H_l_pick H_l_draw_command F31 g31
  have H_new_store : Fn P w K mg base 1 1 "new_store" g_new_store := w_new_store B F2 g2
  have H_l_fresh : Fn P w K mg base 1 1 "_law_fresh" g_l_fresh := w_l_fresh B F33 g33
  have H_store_copied : Fn P w K mg base 1 1 "store_copied" g_store_copied := w_store_copied B F14 g14
  have H_ticked : Fn P w K mg base 2 1 "ticked" g_ticked := w_ticked B H_store_copied F15 g15
  have H_l_job : Fn P w K mg base 1 2 "_law_job" g_l_job := w_l_job B F32 g32
  have H_l_outcome_of : Fn P w K mg base 2 2 "_law_outcome_of" g_l_outcome_of := w_l_outcome_of B H_l_job F34 g34
  have H_l_left : Fn P w K mg base 2 1 "_law_left" g_l_left := w_l_left B H_l_job F36 g36
  have H_l_waits : Fn P w K mg base 3 2 "_law_waits" g_l_waits := w_l_waits B H_l_job H_l_outcome_of F35 g35
  have H_l_hindered : Fn P w K mg base 4 2 "_law_hindered" g_l_hindered := w_l_hindered B H_l_job H_l_outcome_of H_l_left H_l_waits F37 g37
  have H_l_barring : Fn P w K mg base 4 2 "_law_barring" g_l_barring := w_l_barring B H_l_waits H_l_outcome_of H_l_job F38 g38
  have H_l_draw_letter : Fn P w K mg base 5 2 "_law_draw_letter" g_l_draw_letter := w_l_draw_letter B H_l_pick H_l_hindered H_l_barring F44 g44
  have H_l_led_letter : Fn P w K mg base 6 3 "_law_led_letter" g_l_led_letter := w_l_led_letter B H_l_hindered H_l_pick H_l_draw_letter F47 g47
  have H_l_changed : Fn P w K mg base 1 2 "_law_changed" g_l_changed := w_l_changed B F40 g40
  have H_l_with : Fn P w K mg base 1 3 "_law_with" g_l_with := w_l_with B F41 g41
  have H_l_values : Fn P w K mg base 3 2 "_law_values" g_l_values := w_l_values B H_l_outcome_of H_l_job F39 g39
  have H_l_by_keeper : Fn P w K mg base 5 2 "_law_by_keeper" g_l_by_keeper := w_l_by_keeper B H_l_hindered H_l_changed H_l_with H_l_values H_l_barring H_l_job F42 g42
  have H_l_heard : Fn P w K mg base 6 2 "_law_heard" g_l_heard := w_l_heard B H_l_changed H_l_by_keeper H_l_with F43 g43
  have H_store_written : Fn P w K mg base 1 2 "store_written" g_store_written := w_store_written B F18 g18
  have H_hear_take : Fn P w K mg base 2 2 "hear_take" g_hear_take := w_hear_take B H_store_written F19 g19
  have H_ends_in : Fn P w K mg base 1 2 "ends_in" g_ends_in := w_ends_in B F3 g3
  have H_without_hold : Fn P w K mg base 1 2 "without_hold" g_without_hold := w_without_hold B F17 g17
  have H_hear_end : Fn P w K mg base 2 2 "hear_end" g_hear_end := w_hear_end B H_ends_in H_store_written H_without_hold F23 g23
  have H_job_of : Fn P w K mg base 1 2 "job_of" g_job_of := w_job_of B F1 g1
  have H_outcome_in : Fn P w K mg base 2 2 "outcome_in" g_outcome_in := w_outcome_in B H_ends_in H_job_of F4 g4
  have H_has_ended : Fn P w K mg base 3 2 "has_ended" g_has_ended := w_has_ended B H_outcome_in F5 g5
  have H_free_units : Fn P w K mg base 2 1 "free_units" g_free_units := w_free_units B H_job_of F9 g9
  have H_is_done_in : Fn P w K mg base 3 2 "is_done_in" g_is_done_in := w_is_done_in B H_outcome_in F6 g6
  have H_hindering_needs : Fn P w K mg base 4 2 "hindering_needs" g_hindering_needs := w_hindering_needs B H_is_done_in H_has_ended F11 g11
  have H_bars_grant : Fn P w K mg base 5 2 "bars_grant" g_bars_grant := w_bars_grant B H_job_of H_has_ended H_free_units H_hindering_needs F12 g12
  have H_attempt_in : Fn P w K mg base 2 2 "attempt_in" g_attempt_in := w_attempt_in B H_ends_in F8 g8
  have H_results_in : Fn P w K mg base 4 2 "results_in" g_results_in := w_results_in B H_job_of H_is_done_in H_outcome_in F7 g7
  have H_hear_grant : Fn P w K mg base 6 2 "hear_grant" g_hear_grant := w_hear_grant B H_bars_grant H_attempt_in H_store_written H_results_in F20 g20
  have H_hear_free : Fn P w K mg base 2 2 "hear_free" g_hear_free := w_hear_free B H_store_written H_without_hold F21 g21
  have H_bar_need : Fn P w K mg base 5 2 "bar_need" g_bar_need := w_bar_need B H_job_of H_has_ended H_hindering_needs F13 g13
  have H_hear_bar : Fn P w K mg base 6 2 "hear_bar" g_hear_bar := w_hear_bar B H_bar_need H_job_of H_store_written F22 g22
  have H_told_of_store : Fn P w K mg base 1 1 "told_of_store" g_told_of_store := w_told_of_store B F16 g16
  have H_hear_ask : Fn P w K mg base 2 2 "hear_ask" g_hear_ask := w_hear_ask B H_told_of_store F24 g24
  have Td : TabD P w K mg base 6 2 (He.ga K "HEARD") gTab := by
    refine ⟨c.t.tab 0 rfl, fun z g e => ?_⟩
    unfold gTab at e
    by_cases e_grant : z = "grant"
    · rw [if_pos e_grant] at e; cases e; subst e_grant; exact tab_one c.v (x := "hear_grant") (by simp [kvsD]) g20 H_hear_grant (by decide)
    rw [if_neg e_grant] at e
    by_cases e_free : z = "free"
    · rw [if_pos e_free] at e; cases e; subst e_free; exact tab_one c.v (x := "hear_free") (by simp [kvsD]) g21 H_hear_free (by decide)
    rw [if_neg e_free] at e
    by_cases e_bar : z = "bar"
    · rw [if_pos e_bar] at e; cases e; subst e_bar; exact tab_one c.v (x := "hear_bar") (by simp [kvsD]) g22 H_hear_bar (by decide)
    rw [if_neg e_bar] at e
    by_cases e_ask : z = "ask"
    · rw [if_pos e_ask] at e; cases e; subst e_ask; exact tab_one c.v (x := "hear_ask") (by simp [kvsD]) g24 H_hear_ask (by decide)
    rw [if_neg e_ask] at e
    cases e
  have H_store_hears : Fn P w K mg base 7 2 "store_hears" g_store_hears := w_store_hears B H_hear_take H_hear_end H_store_copied Td hT F25 g25
  have H_names_of_jobs : Fn P w K mg base 1 1 "names_of_jobs" g_names_of_jobs := w_names_of_jobs B F0 g0
  have H_still_open : Fn P w K mg base 4 1 "still_open" g_still_open := w_still_open B H_has_ended H_names_of_jobs F10 g10
  have H_l_follows : FnGn P w K mg base 6 2 "_law_follows" g_l_follows := w_l_follows B H_l_left H_free_units H_still_open H_l_outcome_of H_bars_grant H_attempt_in H_results_in H_outcome_in H_l_hindered H_l_values H_bar_need H_l_barring H_has_ended F46 g46
  have H_l_of_told : Fn P w K mg base 1 2 "_law_of_told" g_l_of_told := w_l_of_told B F45 g45
  have H_l_open_cells := w_l_open_cells (P := P) (w := w) (base := base) B F26 g26
  exact w_law B H_l_open_cells H_l_draw_book H_new_store H_l_fresh H_l_pick H_ticked H_l_led_letter H_l_heard H_store_hears H_l_follows H_l_of_told H_l_draw_letter F48
end E64
set_option maxHeartbeats 0
/-! the head: the run -/
namespace E64
open PySem PySem.Spec PyProof.Rows L2
abbrev rowE : PySem.W.OpenRow := PySem.W.OpenLaw.row PySem.Challenge.rw_effectonce_k64_whole_all_that_is_told
abbrev hkE : PySem.W.Hook := hookV 3
def obE (s : PySem.W.SharedT) : AlV := obsVG 3 (HandSHeadRun.getT s)
theorem obE_eq (s : PySem.W.SharedT) : obE s = hkE.obs s.abs := obsVG_eq (HandSHeadRun.getT_eq s)
def looseA : List Str := ["names_of_jobs", "job_of", "new_store", "ends_in", "outcome_in", "has_ended", "is_done_in", "results_in", "attempt_in", "free_units", "still_open", "hindering_needs", "bars_grant", "bar_need", "store_copied", "ticked", "told_of_store", "without_hold", "store_written", "hear_take", "hear_grant", "hear_free", "hear_bar", "hear_end", "hear_ask", "HEARD", "store_hears", "_law_open_cells", "_law_pick", "_law_any_order"]
def looseB : List Str := ["_law_draw_value", "_law_draw_command", "_law_draw_book", "_law_job", "_law_fresh", "_law_outcome_of", "_law_waits", "_law_left", "_law_hindered", "_law_barring", "_law_values", "_law_changed", "_law_with", "_law_by_keeper", "_law_heard", "_law_draw_letter", "_law_of_told", "_law_follows", "_law_led_letter"]
abbrev looseE : List Str := looseA ++ looseB
abbrev qE : Program := PySem.W.view rowE.prog [52]
theorem runF (w : World) : HandSHeadRun.RunEq rowE qE hkE obE 4000 looseE (w.withFollow "special-get-raises" false) := by
  intro os
  kernel_rfl
theorem runT (w : World) : HandSHeadRun.RunEq rowE qE hkE obE 4000 looseE (w.withFollow "special-get-raises" true) := by
  intro os
  kernel_rfl
theorem runE (w : World) : HandSHeadRun.RunEq rowE qE hkE obE 4000 looseE w :=
  PySem.W.byRow2 "special-get-raises" (P := fun w => HandSHeadRun.RunEq rowE qE hkE obE 4000 looseE w) runF runT w
end E64
open PySem PySem.W PySem.Calls PyProof.Rows
theorem PySem.Challenge.cw_effectonce_k64_whole_all_that_is_told_holds : PySem.Challenge.rw_effectonce_k64_whole_all_that_is_told.Holds := by
  w_on; o_law
  refine HandSHeadRun.head_any (r := E64.rowE) (q := E64.qE) (H := E64.hkE) (ob := E64.obE) (M := 4000) (loose := E64.looseE) (d := HandSHeadRun.topDef E64.rowE.prog 52) (kwd := []) E64.obE_eq
    (by kernel_rfl) (fun s => by kernel_rfl) E64.runE (by kernel_rfl) (by kernel_rfl) (by kernel_rfl) (by rfl) (by first | assumption | decide +kernel) (by decide +kernel) ⟨rfl, rfl, rfl, rfl, rfl, by decide +kernel⟩ ?hw ?hc
  case hw => w_witness2
  case hc =>
    refine E64.walk_ofG (l := PySem.Challenge.rw_effectonce_k64_whole_all_that_is_told) (n := 63) (k := 8) (x := "_law_script") (CX := L2.CX0) rfl (by decide) (by kernel_rfl) ⟨rfl, by decide, by decide⟩ ?F (fun _ _ _ _ z => z)
    intro w mg fa h Y G hmg0
    obtain ⟨K, KX, c⟩ := Y
    have hmg : mg ("law" : PySem.Str) = some (.ref fa) := by
      have e : (HandSHeadRun.topDef E64.rowE.prog 52).name = ("law" : PySem.Str) := by kernel_rfl
      rw [← e]
      exact hmg0
    obtain ⟨fd, hb, hF⟩ := E64.facts (P := (PySem.Challenge.rw_effectonce_k64_whole_all_that_is_told).prog) (w := w) KX G hmg c
    exact ⟨K, fd, E64.spLaw K, KX, hb, fun H a ns hl hO hS => ⟨hO, a, ns, rfl, hS, Nat.le_trans hl (by decide), fun _ => rfl⟩, hF⟩
