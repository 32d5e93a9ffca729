import PyProof.Rows.All
import Wide.All
import OpenK.AllK
import Wide.FinOn
import HandS.ForMost
import HandS.Star
import HandS.SlotsOwn
import KE.KOpsOwn
import HandS.Set
import HandS.SetFor
import HandS.SetTxt0
import PySem.Challenge.RW_thesesothose_k16_whole_closings_of_rules
import HandS.SortKw
import KE.SortKeyHeap
import HandS.Walk
import HandS.IsInst
import HandS.Property
import HandS.TupLe
import HandS.Codes
import HandS.EndBits
set_option Elab.async false
set_option linter.all false
set_option maxRecDepth 100000
/-! K16Math: lots as ascending lists of marks, closings as least closed lists; no program here. -/
namespace K16
open PySem PySem.Spec PyProof.Rows
abbrev Lot := List PySem.Str
/-- the order of marks -/
def slt (a b : PySem.Str) : Prop := a.cps.toList < b.cps.toList
theorem slt_irrefl (a : PySem.Str) : ¬ slt a a := List.lt_irrefl _
theorem slt_trans {a b c : PySem.Str} (h : slt a b) (k : slt b c) : slt a c := List.lt_trans h k
theorem str_ext {a b : PySem.Str} (h : a.cps.toList = b.cps.toList) : a = b := by
  cases a with
  | mk x =>
    cases b with
    | mk y => exact congrArg PySem.Str.mk (Array.ext' h)
theorem slt_tri {a b : PySem.Str} (h : a ≠ b) : slt a b ∨ slt b a := by
  rcases Classical.em (slt a b) with k | k
  · exact .inl k
  · rcases Classical.em (slt b a) with m | m
    · exact .inr m
    · exact absurd (str_ext (List.le_antisymm (List.not_lt.mp m) (List.not_lt.mp k))) h
def Srt (xs : Lot) : Prop := xs.Pairwise slt
theorem Srt.nodup {xs : Lot} (h : Srt xs) : xs.Nodup := by
  refine List.Pairwise.imp (R := slt) (fun {a b} k => ?_) h
  intro e
  subst e
  exact slt_irrefl _ k
/-- sortedS of texts that are all different -/
theorem rising_pw : ∀ (l : Lot) (p : PySem.Str), risingS p l = true → (p :: l).Pairwise fun a b => ¬ slt b a
  | [], p, _ => List.pairwise_singleton _ _
  | x :: r, p, h => by
    have h' : (!ltCps x.cps.toList p.cps.toList && risingS x r) = true := h
    rw [Bool.and_eq_true, ltCps_eq] at h'
    obtain ⟨h1, h2⟩ := h'
    have hx : ¬ slt x p := fun k => by
      rw [decide_eq_true (show x.cps.toList < p.cps.toList from k)] at h1
      exact Bool.false_ne_true h1
    have ih := rising_pw r x h2
    refine List.pairwise_cons.mpr ⟨fun y hy => ?_, ih⟩
    rcases List.mem_cons.mp hy with e | hy
    · rw [e]
      exact hx
    · have k := (List.pairwise_cons.mp ih).1 y hy
      intro z
      have l1 : x.cps.toList ≤ y.cps.toList := List.not_lt.mp k
      have l2 : p.cps.toList ≤ x.cps.toList := List.not_lt.mp hx
      exact List.not_lt.mpr (List.le_trans l2 l1) z
theorem srt_of {xs ys : Lot} (hp : ys.Perm xs) (hs : sortedS ys = true) (hn : xs.Nodup) : Srt ys := by
  have nd : ys.Nodup := hp.nodup_iff.mpr hn
  have pw : ys.Pairwise fun a b => ¬ slt b a := by
    cases ys with
    | nil => exact List.Pairwise.nil
    | cons p l => exact rising_pw l p hs
  refine List.Pairwise.imp₂ (fun {a b} h1 h2 => ?_) pw nd
  rcases slt_tri h2 with z | z
  · exact z
  · exact absurd z h1
/-- two ascending lists of the same members are one -/
theorem srt_ext : ∀ {xs ys : Lot}, Srt xs → Srt ys → (∀ x, x ∈ xs ↔ x ∈ ys) → xs = ys
  | [], [], _, _, _ => rfl
  | [], y :: _, _, _, h => absurd ((h y).mpr List.mem_cons_self) List.not_mem_nil
  | x :: _, [], _, _, h => absurd ((h x).mp List.mem_cons_self) List.not_mem_nil
  | x :: xs, y :: ys, hx, hy, h => by
    obtain ⟨hx1, hx2⟩ := List.pairwise_cons.mp hx
    obtain ⟨hy1, hy2⟩ := List.pairwise_cons.mp hy
    have e : x = y := by
      rcases List.mem_cons.mp ((h x).mp List.mem_cons_self) with e | a
      · exact e
      · rcases List.mem_cons.mp ((h y).mpr List.mem_cons_self) with e | b
        · exact e.symm
        · exact absurd (slt_trans (hx1 _ b) (hy1 _ a)) (slt_irrefl _)
    subst e
    refine congrArg (List.cons x) (srt_ext hx2 hy2 fun z => ⟨fun hz => ?_, fun hz => ?_⟩)
    · rcases List.mem_cons.mp ((h z).mp (List.mem_cons_of_mem _ hz)) with e | a
      · subst e
        exact absurd (hx1 _ hz) (slt_irrefl _)
      · exact a
    · rcases List.mem_cons.mp ((h z).mpr (List.mem_cons_of_mem _ hz)) with e | a
      · subst e
        exact absurd (hy1 _ hz) (slt_irrefl _)
      · exact a
theorem srt_sub {xs ys : Lot} (h : Srt ys) (s : xs.Sublist ys) : Srt xs := List.Pairwise.sublist s h
/-- pigeons -/
theorem nodup_le {α : Type} [DecidableEq α] : ∀ {l D : List α}, l.Nodup → (∀ x ∈ l, x ∈ D) → l.length ≤ D.length
  | [], _, _, _ => Nat.zero_le _
  | x :: l, D, hn, hs => by
    obtain ⟨h1, h2⟩ := List.nodup_cons.mp hn
    have hx : x ∈ D := hs x List.mem_cons_self
    have ih := nodup_le (l := l) (D := D.erase x) h2 fun y hy => by
      have ne : y ≠ x := fun e => h1 (e ▸ hy)
      exact (List.mem_erase_of_ne ne).2 (hs y (List.mem_cons_of_mem _ hy))
    have e := List.length_erase_of_mem hx
    have p : 0 < D.length := List.length_pos_of_mem hx
    rw [List.length_cons]
    omega
/-! ### within, rows, closings -/
def wi (xs ys : Lot) : Bool := xs.all fun x => decide (x ∈ ys)
theorem wi_iff {xs ys : Lot} : wi xs ys = true ↔ ∀ x ∈ xs, x ∈ ys := by
  unfold wi
  rw [List.all_eq_true]
  exact ⟨fun h x hx => of_decide_eq_true (h x hx), fun h x hx => decide_eq_true (h x hx)⟩
abbrev Row := Lot × Lot
def brk (xs : Lot) (r : Row) : Bool := wi r.1 xs && !wi r.2 xs
theorem brk_false {xs : Lot} {r : Row} : brk xs r = false ↔ ((∀ x ∈ r.1, x ∈ xs) → ∀ x ∈ r.2, x ∈ xs) := by
  unfold brk
  rw [← wi_iff, ← wi_iff]
  cases wi r.1 xs <;> cases wi r.2 xs <;> simp
def Closed (rows : List Row) (xs : Lot) : Prop := ∀ r ∈ rows, (∀ x ∈ r.1, x ∈ xs) → ∀ x ∈ r.2, x ∈ xs
theorem closed_iff {rows : List Row} {xs : Lot} : (rows.filter (brk xs)) = [] ↔ Closed rows xs := by
  rw [List.filter_eq_nil_iff]
  refine ⟨fun h r hr => brk_false.mp ?_, fun h r hr k => ?_⟩
  · cases e : brk xs r with
    | false => rfl
    | true => exact absurd e (h r hr)
  · rw [brk_false.mpr (h r hr)] at k
    exact Bool.false_ne_true k
/-- zs is the closing of xs -/
structure IsCl (rows : List Row) (xs zs : Lot) : Prop where
  srt : Srt zs
  sub : ∀ x ∈ xs, x ∈ zs
  cl : Closed rows zs
  least : ∀ ws : Lot, (∀ x ∈ xs, x ∈ ws) → Closed rows ws → ∀ x ∈ zs, x ∈ ws
section
variable {rows rows' : List Row} {xs ys zs as bs cs M : Lot}
theorem IsCl.mono (h : IsCl rows xs as) (k : IsCl rows ys bs) (s : ∀ x ∈ xs, x ∈ ys) : ∀ x ∈ as, x ∈ bs := h.least bs (fun x hx => k.sub x (s x hx)) k.cl
theorem IsCl.more (h : IsCl rows xs as) (k : IsCl rows' xs bs) (s : ∀ r ∈ rows, r ∈ rows') : ∀ x ∈ as, x ∈ bs := h.least bs k.sub fun r hr => k.cl r (s r hr)
theorem IsCl.unique (h : IsCl rows xs as) (k : IsCl rows xs bs) : as = bs := srt_ext h.srt k.srt fun x => ⟨h.mono k (fun _ z => z) x, k.mono h (fun _ z => z) x⟩
theorem IsCl.self (h : Closed rows xs) (s : Srt xs) : IsCl rows xs xs := ⟨s, fun _ z => z, h, fun _ z _ => z⟩
theorem IsCl.idem (h : IsCl rows xs as) (k : IsCl rows as bs) : bs = as := k.unique (IsCl.self h.cl h.srt)
theorem IsCl.inMarks (h : IsCl rows xs as) (s : ∀ x ∈ xs, x ∈ M) (m : ∀ r ∈ rows, ∀ x ∈ r.2, x ∈ M) : ∀ x ∈ as, x ∈ M := h.least M s fun r hr _ => m r hr
theorem IsCl.join {u v d : Lot} (h : IsCl rows xs as) (k : IsCl rows ys bs) (hu : ∀ x, x ∈ u ↔ x ∈ xs ∨ x ∈ ys) (hv : ∀ x, x ∈ v ↔ x ∈ as ∨ x ∈ bs) (hc : IsCl rows u cs) (hd : IsCl rows v d) : cs = d := by
  have sx : ∀ x ∈ xs, x ∈ u := fun x z => (hu x).mpr (.inl z)
  have sy : ∀ x ∈ ys, x ∈ u := fun x z => (hu x).mpr (.inr z)
  refine srt_ext hc.srt hd.srt fun x => ⟨hc.least d (fun y hy => ?_) hd.cl x, hd.least cs (fun y hy => ?_) hc.cl x⟩
  · rcases (hu y).mp hy with z | z
    · exact hd.sub y ((hv y).mpr (.inl (h.sub y z)))
    · exact hd.sub y ((hv y).mpr (.inr (k.sub y z)))
  · rcases (hv y).mp hy with z | z
    · exact h.mono hc sx y z
    · exact k.mono hc sy y z
theorem closed_common (h : Closed rows as) (k : Closed rows bs) (hc : ∀ x, x ∈ cs ↔ x ∈ as ∧ x ∈ bs) : Closed rows cs := fun r hr a x hx =>
  (hc x).mpr ⟨h r hr (fun y hy => ((hc y).mp (a y hy)).1) x hx, k r hr (fun y hy => ((hc y).mp (a y hy)).2) x hx⟩
theorem IsCl.row {r : Row} {z : Lot} (h : IsCl rows r.1 z) (hr : r ∈ rows) : ∀ x ∈ r.2, x ∈ z := h.cl r hr h.sub
end
/-- each row of rows follows from rows' -/
def Fol (rows rows' : List Row) : Prop := ∀ r ∈ rows, ∀ z, IsCl rows' r.1 z → ∀ x ∈ r.2, x ∈ z
theorem fol_sub {rows rows' : List Row} (h : ∀ r ∈ rows, r ∈ rows') : Fol rows rows' := fun r hr z k => k.row (h r hr)
/-! ### one sweep of the loop -/
/-- joining what stands behind broken rows keeps below each closed list, and grows -/
theorem grow_len {lot lot' : Lot} (h : Srt lot) (s : ∀ x ∈ lot, x ∈ lot') {y : PySem.Str} (hy : y ∈ lot') (hn : y ∉ lot) : lot.length < lot'.length :=
  nodup_le (l := y :: lot) (D := lot') (List.nodup_cons.mpr ⟨hn, h.nodup⟩) fun x hx => by
    rcases List.mem_cons.mp hx with e | hx
    · rw [e]
      exact hy
    · exact s x hx
theorem brk_new {lot : Lot} {r : Row} (h : brk lot r = true) : ∃ y ∈ r.2, y ∉ lot := by
  unfold brk at h
  rw [Bool.and_eq_true] at h
  have h2 : wi r.2 lot ≠ true := fun e => by
    rw [e] at h
    exact Bool.false_ne_true h.2
  rcases Classical.em (∃ y ∈ r.2, y ∉ lot) with c | c
  · exact c
  · refine absurd (wi_iff.mpr fun x hx => ?_) h2
    rcases Classical.em (x ∈ lot) with k | k
    · exact k
    · exact absurd ⟨x, hx, k⟩ c
theorem brk_ahead {lot : Lot} {r : Row} (h : brk lot r = true) : ∀ x ∈ r.1, x ∈ lot := by
  unfold brk at h
  rw [Bool.and_eq_true] at h
  exact wi_iff.mp h.1
/-! ### marks -/
def letters : List Nat := (PySem.Str.ofString "abcdefghijklmnopqrstuvwxyz").cps.toList
/-- a mark: one to eight small letters -/
def okM (s : PySem.Str) : Bool := decide (0 < s.length) && (decide (s.length ≤ 8) && s.cps.toList.all fun c => decide (c ∈ letters))
/-- a lot of good marks -/
def Good (xs : Lot) : Prop := Srt xs ∧ ∀ x ∈ xs, okM x = true
theorem Good.sub {xs ys : Lot} (h : Good ys) (s : xs.Sublist ys) : Good xs := ⟨srt_sub h.1 s, fun x hx => h.2 x (s.subset hx)⟩
theorem Good.of {xs M : Lot} (h : Srt xs) (m : ∀ x ∈ xs, x ∈ M) (g : Good M) : Good xs := ⟨h, fun x hx => g.2 x (m x hx)⟩
/-- a row of marks M -/
def RowOk (M : Lot) (r : Row) : Prop := Srt r.1 ∧ Srt r.2 ∧ (∀ x ∈ r.1, x ∈ M) ∧ ∀ x ∈ r.2, x ∈ M
end K16
/-! K16Own: an own class's __contains__, __add__ (with a tuple behind) and __len__, as rules of the hand layer. -/
namespace K16
open PySem PySem.Spec PyProof.Rows L2
section
variable {X : Cx} {CX : CXT} {n : Nat} {C g : Addr} {sp : Sp} {E : XK}
/-- what x in o, o an instance of C, asks: the promise of __contains__ at o and x; it answers a truth -/
def rOwnIn (C : Addr) (sp : Sp) (E : XK) (neg : Bool) : R2 := fun x y H Q => ∃ a dx fs, y = .ref a ∧ H a = some (.ins C dx fs) ∧ sp [y, x] H (fun z H' => ∃ b : Bool, z = .bl b ∧ Q (.bl (if neg then !b else b)) H') E
theorem op_ownIn (hs : PySem.W.findIn X.K (.ref C) "__contains__" = some (some (.ref g))) (hf : PySem.W.isFn X.K (.ref g) = true) (F : FnR X.prog X.w X.K X.mg X.base CX n g sp) (hr : Room n X.A) (hx : Passes CX X E) :
    OpR X (compareOp .In) (rOwnIn C sp E false) := by
  intro pins s σ H x y v u Q I rx ry h
  obtain ⟨a, dx, fs, rfl, ha, q⟩ := h
  cases (show u = Value.ref a from ry)
  obtain ⟨mA, O, _⟩ := ins_get I.hok ha
  obtain ⟨od, J, _⟩ := O.look
  obtain ⟨m, hF⟩ := I.fr
  refine PySem.W.in_K hF I.ok.mod.kin J hs hf (thn (wpAny_call (run_fnR (us := [.ref a, v]) (vs := [.ref a, x]) F hr hx I (.cons rfl (.cons rx .nil)) q)) fun w' s' z => ?_)
  obtain ⟨z', H', I', rz, b, eb, qb⟩ := z
  subst eb
  obtain rfl : w' = Value.bool b := rz
  exact wpAny_truthy_bool ⟨.bl b, H', I', rfl, qb⟩
theorem op_ownNotIn (hs : PySem.W.findIn X.K (.ref C) "__contains__" = some (some (.ref g))) (hf : PySem.W.isFn X.K (.ref g) = true) (F : FnR X.prog X.w X.K X.mg X.base CX n g sp) (hr : Room n X.A) (hx : Passes CX X E) :
    OpR X (compareOp .NotIn) (rOwnIn C sp E true) := by
  intro pins s σ H x y v u Q I rx ry h
  obtain ⟨a, dx, fs, rfl, ha, q⟩ := h
  cases (show u = Value.ref a from ry)
  obtain ⟨mA, O, _⟩ := ins_get I.hok ha
  obtain ⟨od, J, _⟩ := O.look
  obtain ⟨m, hF⟩ := I.fr
  refine PySem.W.notIn_K hF I.ok.mod.kin J hs hf (thn (wpAny_call (run_fnR (us := [.ref a, v]) (vs := [.ref a, x]) F hr hx I (.cons rfl (.cons rx .nil)) q)) fun w' s' z => ?_)
  obtain ⟨z', H', I', rz, b, eb, qb⟩ := z
  subst eb
  obtain rfl : w' = Value.bool b := rz
  exact wpAny_truthy_bool ⟨.bl (!b), H', I', rfl, qb⟩
end
/-- what the class must have: __add__, no __radd__, and what a tuple has of both -/
structure AddO (K : PySem.W.Frag) (C g : Addr) : Prop where
  at_ : PySem.W.findIn K (.ref C) (PySem.dunder "add") = some (some (.ref g))
  fn : PySem.W.isFn K (.ref g) = true
  self : PySem.W.selfFirst K C = true
  rad : PySem.W.findIn K (.ref C) (PySem.dunderR "add") = some none
  sub : PySem.W.subIn K (.type "tuple") (.ref C) = some false
  t1 : ∃ fo, PySem.W.findIn K (.type "tuple") (PySem.dunder "add") = some fo
  t2 : ∃ ro, PySem.W.findIn K (.type "tuple") (PySem.dunderR "add") = some ro
set_option maxHeartbeats 4000000 in
theorem add_tup {prog : Program} {w : World} {A : Around} {E : Value → Shared → Prop} {s : Shared} {K : PySem.W.Frag} {x C L g : Addr} {h₀ : Heap} {m : PySem.Str → Option Value} {ox : Obj} {od : Option Obj} {b : Value} {Q : Value → Shared → Prop} (F : Fr h₀ L s.heap m) (X₀ : K.In h₀)
    (I : PySem.W.InstAt s.heap x ox C od) (hb : PySem.W.Looks (model prog w) s.heap (typeOf b) (.type "tuple")) (c : AddO K C g) (h : wpAny (model prog w) A (call (.ref g) [.ref x, b]) (PySem.W.CmpBack Q) E s) : wpAny (model prog w) A (binaryOp .Add (.ref x) b) Q E s := by
  have KX := X₀.keeps F.keep
  obtain ⟨cd, rest, hcd, hm⟩ := PySem.W.ksp_first c.self
  obtain ⟨fo, h1⟩ := c.t1
  obtain ⟨ro, h2⟩ := c.t2
  have ha := c.at_
  have hr := c.rad
  have hi : Operator.info .Add = ("+", "add") := rfl
  generalize ("add" : String) = nm at hi ha hr h1 h2
  have one := PySem.W.ksp_try KX I ha c.fn h
  obtain ⟨hh, gg, dd, tt, os⟩ := s
  have k1 : PySem.W.Looks (model prog w) hh (typeOf (.ref x)) (.ref C) := I.type
  have k2 : PySem.W.Looks (model prog w) hh (typeOf b) (.type "tuple") := hb
  have k3 : PySem.W.Looks (model prog w) hh (fillsNumberSlot (.ref C) nm) true := PySem.W.fills_K KX hcd hm ha
  have k4 : PySem.W.Looks (model prog w) hh (fillsNumberSlot (.type "tuple") nm) ((fo.isSome && !isSeqSlot fo) || (ro.isSome && !isSeqSlot ro)) := PySem.W.ksp_fillsT KX h1 h2
  have k5 : PySem.W.Looks (model prog w) hh (isSubtype (.type "tuple") (.ref C)) false := PySem.W.looks_subIn KX c.sub
  have k6 : PySem.W.Looks (model prog w) hh (numberSlotInPython (.ref C) nm) true := PySem.W.ksp_inPy KX ha hr (.inl rfl)
  have k7 : PySem.W.Looks (model prog w) hh (numberSlotInPython (.type "tuple") nm) false := PySem.W.Looks.of_pure rfl
  have k8 : PySem.W.Looks (model prog w) hh (typeLookup (.type "tuple") (dunderR nm)) ro := PySem.W.looks_findIn KX h2
  generalize ((fo.isSome && !isSeqSlot fo) || (ro.isSome && !isSeqSlot ro)) = right at k4
  have ne : (Value.ref C == Value.type "tuple") = false := Bool.eq_false_iff.mpr fun q => by cases beq_iff_eq.mp q
  generalize Value.type "tuple" = T at k2 k4 k5 k7 k8 ne
  simp only [binaryOp, hi]
  refine wpAny_holding (wpAny_bind ?_)
  unfold binaryOp1
  refine wpAny_bind (k1.at (wpAny_bind (k2.at (wpAny_bind (k3.at ?_)))))
  simp only [ne, Bool.false_eq_true, if_false]
  cases right <;>
  · ksp_lk
    refine wpAny_mono one (fun r s' hr' => ?_) fun _ _ e => e
    obtain ⟨v, rfl, hq⟩ := hr'
    ksp_lk
    exact hq
section
variable {X : Cx} {CX : CXT} {n : Nat} {C g : Addr} {sp : Sp} {E : XK}
/-- o + t, o an instance of C, t a tuple that is tracked -/
def rOwnAdd (C : Addr) (sp : Sp) (E : XK) : R2 := fun x y H Q => ∃ a dx fs b xs, x = .ref a ∧ y = .ref b ∧ H a = some (.ins C dx fs) ∧ H b = some (.tup xs) ∧ sp [x, y] H Q E
theorem op_ownAdd (c : AddO X.K C g) (F : FnR X.prog X.w X.K X.mg X.base CX n g sp) (hr : Room n X.A) (hx : Passes CX X E) : OpR X (binaryOp .Add) (rOwnAdd C sp E) := by
  intro pins s σ H x y v u Q I rx ry h
  obtain ⟨a, dx, fs, b, xs, rfl, rfl, ha, hb, q⟩ := h
  cases (show v = Value.ref a from rx)
  cases (show u = Value.ref b from ry)
  obtain ⟨mA, O, _⟩ := ins_get I.hok ha
  obtain ⟨od, J, _⟩ := O.look
  obtain ⟨m, hF⟩ := I.fr
  obtain ⟨_, _, _, o, h1, h2, _⟩ := (show ObjOk X.prog X.w H s.heap b (.tup xs) from I.hok b _ hb)
  refine add_tup hF I.ok.mod.kin J (h2 ▸ (PySem.W.Looks.ld h1).andThen .now) c (wpAny_mono (wpAny_call (run_fnR (us := [.ref a, .ref b]) (vs := [.ref a, .ref b]) F hr hx I (.cons rfl (.cons rfl .nil)) q)) (fun w' s' z => ?_) fun _ _ e => e)
  obtain ⟨z', H', I', rz, qz⟩ := z
  exact SlX.cmpback rz ⟨z', H', I', rz, qz⟩
/-- len(o), o an instance of C -/
def rOwnLen (C : Addr) (sp : Sp) (E : XK) : List V → Hp → VK → Prop := fun xs H Q => ∃ a dx fs, xs = [.ref a] ∧ H a = some (.ins C dx fs) ∧ sp [.ref a] H (fun z H' => ∃ k : Nat, z = .int k ∧ k < 2 ^ 62 ∧ Q z H') E
theorem cr_ownLen (hs : PySem.W.findIn X.K (.ref C) "__len__" = some (some (.ref g))) (hf : PySem.W.isFn X.K (.ref g) = true) (F : FnR X.prog X.w X.K X.mg X.base CX n g sp) (hr : Room (n + 1) X.A) (hx : Passes CX X E) :
    CallR X (.builtin "len") (rOwnLen C sp E) := by
  intro pins s σ H xs us Q I r h
  obtain ⟨a, dx, fs, rfl, ha, q⟩ := h
  rw [Vals.ref1 r]
  obtain ⟨mA, O, _⟩ := ins_get I.hok ha
  obtain ⟨od, J, _⟩ := O.look
  obtain ⟨m, hF⟩ := I.fr
  refine PySem.W.len_K hF I.ok.mod.kin J hs hf (wpAny_mono (wpAny_call (SlX.run_at (us := [.ref a]) (ws := [.ref a]) F hr.in1 I.env0.in1 hx I (.cons rfl .nil) q)) (fun w' s' z => ?_) fun _ _ e => e)
  obtain ⟨z', H', I', rz, k, ek, hk, qz⟩ := z
  subst ek
  obtain ⟨t, e⟩ := (show ∃ t, w' = Value.int (k : Int) t from rz)
  subst e
  exact ⟨⟨by omega, by omega⟩, .int (k : Int), H', I'.tok _, ⟨_, rfl⟩, qz⟩
end
end K16
/-! K16Set: set(xs) of a list of texts, and sorted of such a set, at any order of the world's. -/
namespace K16
open PySem PySem.Spec PyProof.Rows L2 PySem.Froz
/-- the set of the texts l at a, as it can be walked -/
def TSet (P : Program) (w : World) (h : Heap) (a : Addr) (l : List PySem.Str) : Prop :=
  ∃ D : SD, h.get? a = some (sObj "set" D) ∧ TxOk P w D l ∧ Ris D.2.2.place.toList ∧ (w.params.followText "set-order" = true ∨ D.2.2.led = true)
theorem TSet.at {P : Program} {w : World} {h h' : Heap} {a : Addr} {l : List PySem.Str} (R : TSet P w h a l) (k : ∀ o, h.get? a = some o → h'.get? a = some o) : TSet P w h' a l := by
  obtain ⟨D, ho, r⟩ := R
  exact ⟨D, k _ ho, r⟩
theorem off_place (t : SetTable) : (if t.plain = true then { t with plain := false } else t).place = t.place := by
  split <;> rfl
theorem off_led (t : SetTable) : (if t.plain = true then { t with plain := false } else t).led = t.led := by
  split <;> rfl
theorem tail_ris {ep : Nat} {es : Array (Int × Value)} {t : SetTable} {b : Bool} (r : Ris t.place.toList) : Ris (tailTx ep es t b).2.2.place.toList ∧ (tailTx ep es t b).2.2.led = t.led := by
  unfold tailTx
  split
  · exact ⟨relayAll_ris _ _ _, relayAll_led _ _ _⟩
  · exact ⟨r, rfl⟩
theorem add_ris {D : SD} {h : Int} {v : Value} (r : Ris D.2.2.place.toList) : Ris (addTx h v D).2.2.place.toList ∧ (addTx h v D).2.2.led = D.2.2.led := by
  unfold addTx
  have r1 := layNew_ris D.2.2 D.1 h v r
  have l1 := layNew_led D.2.2 D.1 h v
  obtain ⟨a, b⟩ := tail_ris (ep := D.2.1) (es := (layNew D.2.2 D.1 h v).1) (t := if (layNew D.2.2 D.1 h v).2.1.plain = true then { (layNew D.2.2 D.1 h v).2.1 with plain := false } else (layNew D.2.2 D.1 h v).2.1)
    (b := (layNew D.2.2 D.1 h v).2.2.1) (by rw [off_place]; exact r1)
  exact ⟨a, b.trans ((off_led _).trans l1)⟩
section
variable {P : Program} {w : World} {A : Around} {E : Value → Shared → Prop} {s : Shared}
/-- a text that the set has is added: nothing is done -/
theorem add_old {a : Addr} {D : SD} {l : List PySem.Str} {k : PySem.Str} {u : Tok} {Q : Bool → Shared → Prop} (ho : s.heap.get? a = some (sObj "set" D)) (F : TxOk P w D l) (hk : k ∈ l) (hb : l.length < scanBound) (h : Q false s) :
    wpAny (model P w) A (setAddHashed a (.str k u) (hashStr w k)) Q E s := by
  obtain ⟨es, ep, t⟩ := D
  have hd : (sObj "set" (es, ep, t)).data = .set es ep t := rfl
  have hel : ElemsOf (strKind P w) es.toList := F.el
  have hz : es.size = l.length := F.sz
  have hf : t.fits es.size = true := F.fit
  obtain ⟨e, he, hq⟩ := (F.mem k).mp hk
  unfold setAddHashed setAddHashedIn
  refine wpAny_holding (wpAny_bind (wpAny_setState_of ho hd hf ?_))
  dsimp only
  rw [byScan_of rfl (by omega) hel]
  simp only [↓reduceIte]
  unfold setAddByScan
  refine wpAny_bind ?_
  refine wpAny_bind (wpAny_rule ?_)
  refine wpAny_bind (wpAny_setScan_of (knd := strKind P w) (k := k) (is_str k u) ho hd hf hel ?_)
  cases hfi : List.findIdx? (fun e => (strKind P w).is k e.2) es.toList with
  | none => exact absurd hq (by rw [List.findIdx?_eq_none_iff.mp hfi e he]; exact Bool.false_ne_true)
  | some j =>
    dsimp only
    exact wpAny_pure (wpAny_pure h)
/-- one more text -/
theorem tset_add {a : Addr} {l : List PySem.Str} {k : PySem.Str} {u : Tok} {Q : Bool → Shared → Prop} (R : TSet P w s.heap a l) (nd : l.Nodup) (hb : l.length + 1 < scanBound)
    (h : ∀ (b : Bool) (h' : Heap) (l' : List PySem.Str), TSet P w h' a l' → l'.Nodup → l'.length ≤ l.length + 1 → (∀ x, x ∈ l' ↔ x ∈ l ∨ x = k) → Heap.SameBut a s.heap h' → Q b { s with heap := h' }) :
    wpAny (model P w) A (setAddHashed a (.str k u) (hashStr w k)) Q E s := by
  obtain ⟨D, ho, F, r, g⟩ := R
  rcases Classical.em (k ∈ l) with m | m
  · exact add_old ho F m (by omega) (h false s.heap l ⟨D, ho, F, r, g⟩ nd (Nat.le_succ _) (fun x => ⟨.inl, fun z => z.elim id fun e => e ▸ m⟩) (Heap.SameBut.refl a s.heap))
  · refine add_x ho F m hb (h true _ (k :: l) ⟨_, get_upd _ ho rfl, add_ok u F, (add_ris r).1, g.imp id fun z => (add_ris r).2.trans z⟩ (List.nodup_cons.mpr ⟨m, nd⟩) (Nat.le_refl _) (fun x => ?_) (Heap.SameBut.update s.heap a _))
    rw [List.mem_cons]
    exact Or.comm
theorem tset_fresh {h : Heap} {a : Addr} (ho : h.get? a = some { cls := .type "set", dict := none, data := .set #[] 0 (.fresh 0 0 (!w.params.followText "set-order")) }) : TSet P w h a [] := by
  refine ⟨(#[], 0, .fresh 0 0 (!w.params.followText "set-order")), ho, TxOk.nil rfl, List.Pairwise.nil, ?_⟩
  show _ ∨ (!w.params.followText "set-order") = true
  cases w.params.followText "set-order" with
  | true => exact .inl rfl
  | false => exact .inr rfl
/-- the loop of set.update over a walk of texts -/
theorem tset_loop {I : Addr} {fp wr : List Addr} {G : Array GenState → Array GenState → Prop} {n : Nat} {Pv : Nat → Value → Prop} {St : Nat → Shared → Prop} {R : Result → Shared → Prop} (W : WalksS P w A.in1 I fp wr G n Pv St) (S : Addr) (out : S ∉ fp)
    (xs : List PySem.Str) (hn : n = xs.length) (hb : xs.length + 1 < scanBound) (hval : ∀ i v, Pv i v → ∃ k t, xs[i]? = some k ∧ v = .str k t) :
    ∀ (m i : Nat) (s : Shared), n - i = m → i ≤ n → St i s → (∃ l, TSet P w s.heap S l ∧ l.Nodup ∧ l.length ≤ i ∧ ∀ x, x ∈ l ↔ x ∈ xs.take i) →
      (∀ s' l, Moved (S :: wr) G s s' → TSet P w s'.heap S l → l.Nodup → l.length ≤ n → (∀ x, x ∈ l ↔ x ∈ xs) → R (.ok (.ret .none)) s') →
      codeAny (model P w) A (.builtin "set.update.loop" ⟨[.ref S, .ref I], []⟩) R s := by
  have outw : S ∉ wr := fun z => out (W.sub _ z)
  have up : ∀ b ∈ wr, b ∈ S :: wr := fun b z => List.mem_cons_of_mem _ z
  intro m
  induction m with
  | zero =>
    intro i s hm hi hst ⟨l, hT, nd, hl, hx⟩ hR
    obtain rfl : i = n := by omega
    refine codeAny_builtin PyProof.Rows.F.entry_set_update_loop ?_
    rw [Around.under_plainId PyProof.Rows.F.plain_set_update_loop _]
    show wpAny _ A.in1 (pyNext (.ref I) >>= _) _ _ s
    refine wpAny_bind (W.done s _ _ hst fun s' mv => ?_)
    show wpAny _ A.in1 (ret Value.none) _ _ s'
    exact wpAny_pure (hR s' l (mv.mono up) (hT.at fun o e => mv.heap S o outw e) nd hl fun x => by rw [hx x, List.take_of_length_le (by omega)])
  | succ m ih =>
    intro i s hm hi hst ⟨l, hT, nd, hl, hx⟩ hR
    have lt : i < n := by omega
    refine codeAny_builtin PyProof.Rows.F.entry_set_update_loop ?_
    rw [Around.under_plainId PyProof.Rows.F.plain_set_update_loop _]
    show wpAny _ A.in1 (pyNext (.ref I) >>= _) _ _ s
    refine wpAny_bind (W.item i s _ _ lt hst fun v s' hP hst' mv => ?_)
    obtain ⟨z, t, hz, rfl⟩ := hval i v hP
    have hT' : TSet P w s'.heap S l := hT.at fun o e => mv.heap S o outw e
    show wpAny _ A.in1 (holding [Value.str z t] (setAdd S (.str z t)) >>= _) _ _ s'
    refine wpAny_bind (wpAny_holding ?_)
    unfold setAdd
    refine wpAny_holding ?_
    refine wpAny_bind ((PySem.strKind P w).pyHash (k := z) (strKind_is _ _ _ _) ?_)
    refine tset_add (s := { s' with toks := s'.toks + 1 }) hT' nd (by omega) fun _ h' l' hT2 nd2 hl2 hx2 same => ?_
    have hx3 : ∀ x, x ∈ l' ↔ x ∈ xs.take (i + 1) := fun x => by
      rw [hx2 x, hx x, List.take_add_one, hz, List.mem_append]
      exact ⟨fun q => q.imp id fun e => by rw [e]; exact List.mem_singleton.mpr rfl, fun q => q.imp id fun e => List.mem_singleton.mp e⟩
    refine wpAny_pure ⟨plainId_quiet PyProof.Rows.F.plain_set_update_loop _, ih (i + 1) _ (by omega) lt (W.frame _ s' _ _ hst' (Nat.le_succ _) fun b hb o e => ?_) ⟨l', hT2, nd2, by omega, hx3⟩ fun s'' l2 mv2 a1 a2 a3 a4 => ?_⟩
    · rw [same.2 b (fun z : b = S => out (by rw [← z]; exact hb))]
      exact e
    · refine hR s'' l2 (Moved.trans W.gtrans ((mv.mono up).then_heap (Nat.le_succ _) fun b o hb e => ?_) mv2) a1 a2 a3 a4
      rw [same.2 b (fun z : b = S => hb (by rw [z]; exact List.mem_cons_self))]
      exact e
end
end K16
/-! K16SetB: the calls set(xs), sorted(set) as rules. -/
namespace K16
open PySem PySem.Spec PyProof.Rows L2 PySem.Froz
theorem texts_at : ∀ {us : List Value} {xs : List PySem.Str}, StrsAre us xs → ∀ (i : Nat) (v : Value), us[i]? = some v → ∃ k t, xs[i]? = some k ∧ v = .str k t
  | _, _, .nil, i, v, h => by simp at h
  | _, _, .cons n t _, 0, v, h => ⟨n, t, rfl, (Option.some.inj (by simpa using h)).symm⟩
  | _, _, .cons n t r, i + 1, v, h => by
    simp only [List.getElem?_cons_succ] at h ⊢
    exact texts_at r i v h
section
variable {P : Program} {w : World} {A : Around} {E : Value → Shared → Prop} {s : Shared}
/-- the object that set() makes -/
abbrev set0 (w : World) : Obj := { cls := .type "set", dict := none, data := .set #[] 0 (.fresh 0 0 (!w.params.followText "set-order")) }
set_option maxHeartbeats 3200000 in
theorem call_set_texts {l : Addr} {items : Array Value} (xs : List PySem.Str) {Q : Value → Shared → Prop} (hh : A.handled = none) (hl : s.heap.IsList l items) (hit : StrsAre items.toList xs) (hb : xs.length + 1 < scanBound)
    (h : ∀ (h' : Heap) (tk : Nat) (ys : List PySem.Str), TSet P w h' s.heap.objs.size ys → ys.Nodup → ys.length ≤ xs.length → (∀ x, x ∈ ys ↔ x ∈ xs) → (∀ b o, s.heap.get? b = some o → h'.get? b = some o) → Q (.ref s.heap.objs.size) { s with heap := h', toks := tk }) :
    wpAny (model P w) A (call (.type "set") [.ref l]) Q E s := by
  have hz : items.size = xs.length := by
    have q := StrsAre.len_eq hit
    rw [Array.length_toList] at q
    exact q
  obtain ⟨c, tl, hmro⟩ := PySem.F.called_set.mro
  have q1 := PySem.F.called_set.made
  have q2 := PySem.F.called_set.sub
  refine wpAny_call (codeAny_of_tree ?_)
  show wpAny _ _ (callAny (.type "set") _) _ _ _
  refine wpAny_pure ⟨Code.quiet_builtin _ (by decide +kernel), codeAny_builtin PySem.F.entry_type_call ?_⟩
  rw [Around.under_plain (weight_type_call_type "set" [.ref l] []) rfl]
  have q3 := PySem.F.called_set.notType
  have q4 := PySem.F.called_set.canCreate
  have q5 := PySem.F.typeCall_set_1 (.ref l)
  repeat (any_goals (first | assumption | wp_step))
  refine codeAny_mono (code_set_led1 (.ref l) (E := E) (Q₁ := fun obj s₁ => obj = .ref s.heap.objs.size ∧ s₁ = { s with heap := s.heap.push (set0 w) }) ⟨rfl, rfl⟩) fun r s₁ hr => ?_
  cases r with
  | error e => exact hr
  | ok fl =>
    cases fl with
    | ret obj =>
      obtain ⟨rfl, rfl⟩ := hr
      have gS : (s.heap.push (set0 w)).get? s.heap.objs.size = some (set0 w) := Heap.get?_push_size _ rfl
      have tS : Shared.TypeIs { s with heap := s.heap.push (set0 w) } (.ref s.heap.objs.size) "set" := ⟨_, gS, rfl⟩
      have q6 := PySem.F.called_set.init.lookup
      have q7 := PySem.F.called_set.init.bind (.ref s.heap.objs.size)
      repeat (any_goals (first | assumption | wp_step))
      refine codeAny_mono (codeAny_call_builtin (R := wants (fun r s₂ => r = .none ∧ ∃ h' tk ys, s₂ = { s with heap := h', toks := tk } ∧ TSet P w h' s.heap.objs.size ys ∧ ys.Nodup ∧ ys.length ≤ xs.length ∧ (∀ x, x ∈ ys ↔ x ∈ xs) ∧
          (∀ b o, s.heap.get? b = some o → h'.get? b = some o)) E) PySem.F.called_set.init.plain PySem.F.entry_set_init (check_set_init_1 tS ?_)) fun r₂ s₂ hr₂ => ?_
      · obtain ⟨ol, hol, hcl, nl, hdl⟩ := hl
        obtain ⟨ocls, odict, odata, oslots⟩ := ol
        simp only at hcl hdl
        subst hcl; subst hdl
        have gL : (s.heap.push (set0 w)).get? l = some { cls := .type "list", dict := odict, data := .seq items nl, slots := oslots } := Heap.get?_push_of_some _ hol
        have q8 := PySem.F.sub_list_set
        have q9 := PySem.F.sub_list_frozenset
        have q10 : (Value.type "list" == Value.type "dict") = false := by decide
        have isL : (s.heap.push (set0 w)).IsList l items := ⟨_, gL, rfl, nl, rfl⟩
        unfold Builtin.«set.__init__» noKeywords Builtin.Frozenset.updateFrom
        generalize hPI : pyIter = PI
        wp_walk
        subst hPI
        refine wpAny_pyIter_list isL ?_
        refine wpAny_bind (wpAny_runValue ?_)
        have lS : l < s.heap.objs.size := Heap.lt_size hol
        have hh3 : A.in1.in1.in1.handled = none := by simp [hh]
        have z1 : (s.heap.push (set0 w)).objs.size = s.heap.objs.size + 1 := Heap.size_push ..
        have neI : l ≠ (s.heap.push (set0 w)).objs.size := by
          rw [z1]
          exact Nat.ne_of_lt (Nat.lt_succ_of_lt lS)
        have outS : s.heap.objs.size ∉ [(s.heap.push (set0 w)).objs.size, l] := by
          rw [z1]
          simp only [List.mem_cons, List.not_mem_nil, or_false, not_or]
          exact ⟨Nat.ne_of_lt (Nat.lt_succ_self _), Nat.ne_of_gt lS⟩
        have hval : ∀ (i : Nat) (v : Value), items[i]? = some v → ∃ k t, xs[i]? = some k ∧ v = .str k t := fun i v hv => texts_at hit i v (by rw [Array.getElem?_toList]; exact hv)
        refine tset_loop ((Walks.list hh3 _ l neI items).toS) s.heap.objs.size outS xs hz hb hval (items.size - 0) 0 _ (by omega) (Nat.zero_le _) ⟨⟨_, Heap.get?_push_size _ rfl, rfl, rfl⟩, (isL.push _)⟩ ?start ?fin
        case start => exact ⟨[], tset_fresh (Heap.get?_push_of_some _ gS), List.nodup_nil, Nat.le_refl 0, fun x => by simp⟩
        case fin =>
          intro s' ys mv a1 a2 a3 a4
          obtain ⟨h', g2, d', tk', os'⟩ := s'
          have eg : g2 = s.gens := mv.gens
          have ed : d' = s.drawn := mv.drawn
          have eo : os' = s.os := mv.os
          subst eg; subst ed; subst eo
          show wpAny _ _ _ _ _ _
          refine wpAny_pure ?_
          show wpAny _ _ (ret Value.none) _ _ _
          rw [hz] at a3
          refine wpAny_pure ⟨rfl, h', tk', ys, rfl, a1, a2, a3, a4, fun b o e => ?_⟩
          have b0 : b < s.heap.objs.size := Heap.lt_size e
          have b1 : b ≠ s.heap.objs.size := Nat.ne_of_lt b0
          have b2 : b ≠ (s.heap.push (set0 w)).objs.size := by
            rw [z1]
            exact Nat.ne_of_lt (Nat.lt_succ_of_lt b0)
          exact mv.heap b o (by simp only [List.mem_cons, List.not_mem_nil, or_false, not_or]; exact ⟨b1, b2⟩) (Heap.get?_push_of_some _ (Heap.get?_push_of_some _ e))
      · cases r₂ with
        | error e => exact hr₂
        | ok fl₂ =>
          cases fl₂ with
          | ret r =>
            obtain ⟨rfl, h', tk, ys, rfl, a1, a2, a3, a4, a5⟩ := hr₂
            repeat (any_goals (first | assumption | wp_step))
            exact h _ _ _ a1 a2 a3 a4 a5
          | _ => exact hr₂.elim
    | _ => exact hr.elim
end
/-- the texts of the entries, in their order -/
theorem tx_strs {P : Program} {w : World} : ∀ {l : List (Int × Value)}, ElemsOf (strKind P w) l → ∃ ks : List PySem.Str, StrsAre (l.map (·.2)) ks
  | [], _ => ⟨[], .nil⟩
  | e :: l, h => by
    obtain ⟨ks, r⟩ := tx_strs (l := l) fun x hx => h x (List.mem_cons_of_mem _ hx)
    obtain ⟨⟨k, hk, _⟩, _⟩ := h e List.mem_cons_self
    obtain ⟨t, ev⟩ := Value.isStrOf_shape (x := k) (v := e.2) hk
    refine ⟨k :: ks, ?_⟩
    rw [List.map_cons, ev]
    exact .cons k t r
theorem strs_all : ∀ {us : List Value}, (∀ u ∈ us, ∃ k t, u = Value.str k t) → ∃ ks, StrsAre us ks
  | [], _ => ⟨[], .nil⟩
  | u :: us, h => by
    obtain ⟨ks, r⟩ := strs_all (us := us) fun x hx => h x (List.mem_cons_of_mem _ hx)
    obtain ⟨k, t, e⟩ := h u List.mem_cons_self
    rw [e]
    exact ⟨k :: ks, .cons k t r⟩
theorem strs_mem : ∀ {us : List Value} {ks : List PySem.Str}, StrsAre us ks → ∀ k, k ∈ ks ↔ ∃ t, Value.str k t ∈ us
  | _, _, .nil, k => ⟨fun h => absurd h List.not_mem_nil, fun ⟨_, h⟩ => absurd h List.not_mem_nil⟩
  | _, _, .cons n t r, k => by
    rw [List.mem_cons, strs_mem r k]
    constructor
    · rintro (e | ⟨t', h⟩)
      · exact ⟨t, by rw [e]; exact List.mem_cons_self⟩
      · exact ⟨t', List.mem_cons_of_mem _ h⟩
    · rintro ⟨t', h⟩
      rcases List.mem_cons.mp h with e | h
      · exact .inl (Value.str.inj e).1
      · exact .inr ⟨t', h⟩
end K16
/-! K16SetC: sorted of a set of texts; both as rules of the hand layer. -/
namespace K16
open PySem PySem.Spec PyProof.Rows L2 PySem.Froz
theorem nodup_of_len : ∀ {ks l : List PySem.Str}, l.Nodup → (∀ x ∈ l, x ∈ ks) → ks.length ≤ l.length → ks.Nodup
  | [], _, _, _, _ => List.nodup_nil
  | k :: r, l, nd, s, hl => by
    rw [List.length_cons] at hl
    have small : ¬ ∀ x ∈ l, x ∈ r := fun z => by
      have q := nodup_le nd z
      omega
    have kr : k ∉ r := fun z => small fun x hx => by
      rcases List.mem_cons.mp (s x hx) with e | m
      · rw [e]
        exact z
      · exact m
    have kl : k ∈ l := by
      rcases Classical.em (k ∈ l) with m | m
      · exact m
      · refine absurd (fun x hx => ?_) small
        rcases List.mem_cons.mp (s x hx) with e | q
        · rw [e] at hx
          exact absurd hx m
        · exact q
    refine List.nodup_cons.mpr ⟨kr, nodup_of_len (l := l.erase k) (nd.erase k) (fun x hx => ?_) ?_⟩
    · rcases List.mem_cons.mp (s x (List.mem_of_mem_erase hx)) with e | m
      · rw [e] at hx
        exact absurd hx (List.Nodup.not_mem_erase nd)
      · exact m
    · rw [List.length_erase_of_mem kl]
      omega
section
variable {P : Program} {w : World} {A : Around} {E : Value → Shared → Prop} {s : Shared}
theorem sorted_tset {a : Addr} {l : List PySem.Str} {Q : Value → Shared → Prop} (R : TSet P w s.heap a l) (nd : l.Nodup) (hh : A.handled = none) (h64 : l.length < 64)
    (hQ : ∀ s' p (out : Array Value) (c : Nat) (ys : List PySem.Str), (∀ b o, s.heap.get? b = some o → s'.heap.get? b = some o) → s'.gens = s.gens → s'.os = s.os → s.heap.objs.size ≤ p →
      s'.heap.get? p = some (seqObj "list" out c) → StrsAre out.toList ys → Srt ys → (∀ x, x ∈ ys ↔ x ∈ l) → Q (.ref p) s') :
    wpAny (model P w) A (call (.builtin "sorted") [.ref a]) Q E s := by
  obtain ⟨⟨es, ep, t⟩, ho, F, r, g⟩ := R
  have hz : es.size = l.length := F.sz
  have hf : t.fits es.size = true := F.fit
  have hsc : es.size < scanBound := by
    rw [hz]
    unfold scanBound
    omega
  refine Calls.call_function_entry kind_sorted plain_sorted entry_sorted (args_sorted1 _) ?_
  unfold Builtin.«sorted»
  refine wpAny_bind (m := checkCount "sorted" 1 1 _) (wpAny_pure ?_)
  refine wpAny_bind (collect_set (A := A.in1) hh ⟨_, ho, rfl, rfl⟩ hf hsc r g fun s1 vs k1 z1 g1 o1 pm => ?_)
  have hvl : vs.length = l.length := by rw [pm.length_eq, List.length_map, Array.length_toList, hz]
  obtain ⟨ks, hS⟩ : ∃ ks, StrsAre vs ks := strs_all fun v hv => by
    obtain ⟨e, he, q⟩ := List.mem_map.mp (pm.mem_iff.mp hv)
    obtain ⟨⟨k, hk, _⟩, _⟩ := F.el e he
    obtain ⟨t', ev⟩ := Value.isStrOf_shape (x := k) (v := e.2) hk
    exact ⟨k, t', by rw [← q]; exact ev⟩
  have hkl : ks.length = l.length := by rw [← StrsAre.len_eq hS, hvl]
  have hm : ∀ x, x ∈ ks ↔ x ∈ l := fun x => by
    rw [strs_mem hS x, F.mem x]
    constructor
    · rintro ⟨t', m⟩
      obtain ⟨e, he, q⟩ := List.mem_map.mp (pm.mem_iff.mp m)
      exact ⟨e, he, by rw [q]; exact is_str x t'⟩
    · rintro ⟨e, he, q⟩
      obtain ⟨t', ev⟩ := Value.isStrOf_shape (x := x) (v := e.2) q
      exact ⟨t', pm.mem_iff.mpr (List.mem_map.mpr ⟨e, he, ev⟩)⟩
  have nk : ks.Nodup := nodup_of_len nd (fun x hx => (hm x).mpr hx) (by omega)
  refine wpAny_bind (wpAny_newList ?_ (by rw [hvl, sizeLine_eq]; omega))
  have hoL : (s1.heap.push (seqObj "list" vs.toArray 0)).get? s1.heap.objs.size = some (seqObj "list" vs.toArray 0) := Heap.get?_push_size _ rfl
  refine wpAny_bind (wpAny_holding (wpAny_call_entry PyProof.Rows.slot_list_sort ⟨_, hoL, rfl⟩ PyProof.Rows.entry_list_sort
    (list_sort_treeK strKind_oneLt hoL hS.keysOf (fun v₁ v₂ rest e => keyKind_strs (by rw [← e]; exact hS)) (by rw [hvl]; exact h64) fun st' hp hs => ⟨_, rfl, ?_⟩) (PyProof.Rows.args_list_sort _)))
  obtain ⟨ys, y1, y2, y3⟩ := sorted_out_str hS hp hs
  obtain ⟨c, hc⟩ := sortedHeap_at (vs := vs) (out := (arrOf st').map (·.2)) hoL
  refine wpAny_pure ⟨_, rfl, hQ _ s1.heap.objs.size _ c ys (fun b u e => ?_) g1 o1 z1 hc y1 (srt_of y2 y3 nk) fun x => y2.mem_iff.trans (hm x)⟩
  have q := k1 b u e
  have lt := Heap.lt_size q
  show (sortedHeap (s1.heap.push (seqObj "list" vs.toArray 0)) s1.heap.objs.size vs _).get? b = some u
  rw [sortedHeap_old (Nat.ne_of_lt lt) (by rw [size_push']; exact Nat.lt_succ_of_lt lt)]
  exact Heap.get?_push_of_some _ q
end
/-- what stands at such a set -/
def SetTx (P : Program) (w : World) (a : Addr) (l : List PySem.Str) : HO := .ext fun h => TSet P w h a l
section
variable {X : Cx}
theorem setTx_new {P : Program} {w : World} {H : Hp} {h : Heap} {a : Addr} {l : List PySem.Str} (R : TSet P w h a l) : ObjOk P w H h a (SetTx P w a l) := by
  have ⟨D, ho, _⟩ := R
  exact ⟨R, ⟨_, ho⟩, fun h1 h2 p k => TSet.at p k⟩
/-- set(xs), xs a list of texts -/
def rSetTx (K : PySem.W.Frag) (P : Program) (w : World) : List V → Hp → VK → Prop := fun vs H Q => ∃ (a : Addr) (xs : List PySem.Str), vs = [V.ref a] ∧ SqL K H a (xs.map V.str) ∧ xs.length < 64 ∧
  ∀ (ys : List PySem.Str) (p : Addr), ys.Nodup → ys.length ≤ xs.length → (∀ x, x ∈ ys ↔ x ∈ xs) → H p = none → Q (.ref p) (upd H p (SetTx P w p ys))
theorem cr_setTx (hc : X.calm = true) : CallR X (.type "set") (rSetTx X.K X.prog X.w) := by
  intro pins s σ H vs us Q I r h
  obtain ⟨a, xs, rfl, hs, h64, q⟩ := h
  obtain ⟨its, rv, hl, _⟩ := I.list hs
  rw [Vals.ref1 r]
  refine call_set_texts xs (I.ok.hd hc) hl.isList (by simpa using rv.strs) (by unfold scanBound; omega) fun h' tk ys a1 a2 a3 a4 a5 => ?_
  exact ⟨.ref s.heap.objs.size, upd H s.heap.objs.size (SetTx X.prog X.w s.heap.objs.size ys), I.laid (t' := tk) a5 (Nat.le_refl _) (setTx_new a1), rfl, q ys _ a2 a3 a4 (I.hok.fresh (Nat.le_refl _))⟩
/-- sorted of it -/
def rSortTx (P : Program) (w : World) : List V → Hp → VK → Prop := fun vs H Q => ∃ (a : Addr) (l : List PySem.Str), vs = [V.ref a] ∧ H a = some (SetTx P w a l) ∧ l.Nodup ∧ l.length < 64 ∧
  ∀ (ys : List PySem.Str) (p : Addr), Srt ys → (∀ x, x ∈ ys ↔ x ∈ l) → H p = none → Q (.ref p) (upd H p (.lst (ys.map V.str)))
theorem cr_sortTx (hc : X.calm = true) : CallR X (.builtin "sorted") (rSortTx X.prog X.w) := by
  intro pins s σ H vs us Q I r h
  obtain ⟨a, l, rfl, ha, nd, h64, q⟩ := h
  have R : TSet X.prog X.w s.heap a l := (I.hok a _ ha).1
  rw [Vals.ref1 r]
  refine sorted_tset R nd (I.ok.hd hc) h64 fun s' p out c ys k g o hp hg hi hs hm => ?_
  have hlen : (ys.map V.str).length ≤ sizeLine := by
    rw [List.length_map]
    have z := nodup_le hs.nodup (fun x hx => (hm x).mp hx)
    exact Nat.le_trans z (Nat.le_trans (Nat.le_of_lt h64) (by decide))
  have hn : H p = none := I.hok.fresh hp
  have J : Inv X pins σ (upd H p (.lst (ys.map V.str))) { s with heap := s'.heap, gens := s'.gens, drawn := s'.drawn, toks := s'.toks } :=
    I.call (ch := []) (Un.laid k hp hn) (I.hok.laid k hp ⟨hlen, out.toList, c, vals_of_strs hi, hg⟩) (by rw [g]; exact I.bare) (fun _ z => nomatch z)
  have e : s' = { s with heap := s'.heap, gens := s'.gens, drawn := s'.drawn, toks := s'.toks } := by
    cases s'
    cases s
    cases o
    rfl
  rw [e]
  exact ⟨.ref p, _, J, rfl, q ys p hs hm hn⟩
end
end K16
/-! K16Text: the program's defs by their places in the text, and their names by slots. -/
namespace K16
open PySem PySem.Spec PyProof.Rows L2
def topS (i : Nat) : Stmt := PySem.Challenge.pw_thesesothose_k16_whole_closings_of_rules.main.body.getD i (.Pass ⟨0, 0, 0, 0⟩)
abbrev sLotOf : Stmt := topS 6
abbrev sRank : Stmt := topS 7
abbrev sInOrder : Stmt := topS 8
abbrev sAllLots : Stmt := topS 9
abbrev sWithin : Stmt := topS 10
abbrev sJoined : Stmt := topS 11
abbrev sCommon : Stmt := topS 12
abbrev sIsInteger : Stmt := topS 15
abbrev sIsMark : Stmt := topS 16
abbrev sIsLot : Stmt := topS 17
abbrev sIsRule : Stmt := topS 18
abbrev sBreaks : Stmt := topS 20
abbrev sIsRuleOf : Stmt := topS 21
abbrev sAreRulesOf : Stmt := topS 22
abbrev sInit : Stmt := inClass (topS 23) 0
abbrev sMarks : Stmt := inClass (topS 23) 1
abbrev sRows : Stmt := inClass (topS 23) 2
abbrev sNeedRow : Stmt := inClass (topS 23) 3
abbrev sLen : Stmt := inClass (topS 23) 5
abbrev sClosing : Stmt := inClass (topS 23) 7
abbrev sCall : Stmt := inClass (topS 23) 8
abbrev sBrokenBy : Stmt := inClass (topS 23) 9
abbrev sContains : Stmt := inClass (topS 23) 10
abbrev sAdd : Stmt := inClass (topS 23) 11
abbrev sWithout : Stmt := inClass (topS 23) 13
abbrev sFollows : Stmt := inClass (topS 23) 16
abbrev sBag : Stmt := topS 25
abbrev sTake : Stmt := topS 26
abbrev sMixed : Stmt := topS 27
abbrev sOne : Stmt := topS 28
abbrev sLMarks : Stmt := topS 29
abbrev sLot : Stmt := topS 30
abbrev sFew : Stmt := topS 31
abbrev sRule : Stmt := topS 32
abbrev sSomeRows : Stmt := topS 33
abbrev sPairRight : Stmt := topS 34
abbrev sMoreRight : Stmt := topS 35
abbrev sLaw : Stmt := topS 36
theorem scLotOf : FnScope ["marks"] ["marks"] (defScope sLotOf) := ⟨rfl, rfl, rfl, by decide +kernel, rfl, by decide +kernel, by decide +kernel⟩
theorem scRank : FnScope ["lot"] ["lot"] (defScope sRank) := ⟨rfl, rfl, rfl, by decide +kernel, rfl, by decide +kernel, by decide +kernel⟩
theorem scInOrder : FnScope ["lots"] ["lots"] (defScope sInOrder) := ⟨rfl, rfl, rfl, by decide +kernel, rfl, by decide +kernel, by decide +kernel⟩
theorem scAllLots : FnScope ["marks", "found", "mark", "lot"] ["marks"] (defScope sAllLots) := ⟨rfl, rfl, rfl, by decide +kernel, rfl, by decide +kernel, by decide +kernel⟩
theorem scWithin : FnScope ["one", "other", "mark"] ["one", "other"] (defScope sWithin) := ⟨rfl, rfl, rfl, by decide +kernel, rfl, by decide +kernel, by decide +kernel⟩
theorem scJoined : FnScope ["one", "other"] ["one", "other"] (defScope sJoined) := ⟨rfl, rfl, rfl, by decide +kernel, rfl, by decide +kernel, by decide +kernel⟩
theorem scCommon : FnScope ["one", "other", "mark"] ["one", "other"] (defScope sCommon) := ⟨rfl, rfl, rfl, by decide +kernel, rfl, by decide +kernel, by decide +kernel⟩
theorem scIsInteger : FnScope ["thing"] ["thing"] (defScope sIsInteger) := ⟨rfl, rfl, rfl, by decide +kernel, rfl, by decide +kernel, by decide +kernel⟩
theorem scIsMark : FnScope ["thing", "sign"] ["thing"] (defScope sIsMark) := ⟨rfl, rfl, rfl, by decide +kernel, rfl, by decide +kernel, by decide +kernel⟩
theorem scIsLot : FnScope ["thing", "mark", "at"] ["thing"] (defScope sIsLot) := ⟨rfl, rfl, rfl, by decide +kernel, rfl, by decide +kernel, by decide +kernel⟩
theorem scIsRule : FnScope ["thing"] ["thing"] (defScope sIsRule) := ⟨rfl, rfl, rfl, by decide +kernel, rfl, by decide +kernel, by decide +kernel⟩
theorem scBreaks : FnScope ["lot", "rule"] ["lot", "rule"] (defScope sBreaks) := ⟨rfl, rfl, rfl, by decide +kernel, rfl, by decide +kernel, by decide +kernel⟩
theorem scIsRuleOf : FnScope ["marks", "thing"] ["marks", "thing"] (defScope sIsRuleOf) := ⟨rfl, rfl, rfl, by decide +kernel, rfl, by decide +kernel, by decide +kernel⟩
theorem scAreRulesOf : FnScope ["marks", "thing", "row"] ["marks", "thing"] (defScope sAreRulesOf) := ⟨rfl, rfl, rfl, by decide +kernel, rfl, by decide +kernel, by decide +kernel⟩
theorem scInit : FnScope ["self", "marks", "rows"] ["self", "marks", "rows"] (defScope sInit) := ⟨rfl, rfl, rfl, by decide +kernel, rfl, by decide +kernel, by decide +kernel⟩
theorem scMarks : FnScope ["self"] ["self"] (defScope sMarks) := ⟨rfl, rfl, rfl, by decide +kernel, rfl, by decide +kernel, by decide +kernel⟩
theorem scRows : FnScope ["self"] ["self"] (defScope sRows) := ⟨rfl, rfl, rfl, by decide +kernel, rfl, by decide +kernel, by decide +kernel⟩
theorem scNeedRow : FnScope ["self", "index"] ["self", "index"] (defScope sNeedRow) := ⟨rfl, rfl, rfl, by decide +kernel, rfl, by decide +kernel, by decide +kernel⟩
theorem scLen : FnScope ["self"] ["self"] (defScope sLen) := ⟨rfl, rfl, rfl, by decide +kernel, rfl, by decide +kernel, by decide +kernel⟩
theorem scClosing : FnScope ["self", "lot", "broken", "ahead", "behind"] ["self", "lot"] (defScope sClosing) := ⟨rfl, rfl, rfl, by decide +kernel, rfl, by decide +kernel, by decide +kernel⟩
theorem scCall : FnScope ["self", "lot"] ["self", "lot"] (defScope sCall) := ⟨rfl, rfl, rfl, by decide +kernel, rfl, by decide +kernel, by decide +kernel⟩
theorem scBrokenBy : FnScope ["self", "lot", "row"] ["self", "lot"] (defScope sBrokenBy) := ⟨rfl, rfl, rfl, by decide +kernel, rfl, by decide +kernel, by decide +kernel⟩
theorem scContains : FnScope ["self", "thing"] ["self", "thing"] (defScope sContains) := ⟨rfl, rfl, rfl, by decide +kernel, rfl, by decide +kernel, by decide +kernel⟩
theorem scAdd : FnScope ["self", "rule"] ["self", "rule"] (defScope sAdd) := ⟨rfl, rfl, rfl, by decide +kernel, rfl, by decide +kernel, by decide +kernel⟩
theorem scWithout : FnScope ["self", "index"] ["self", "index"] (defScope sWithout) := ⟨rfl, rfl, rfl, by decide +kernel, rfl, by decide +kernel, by decide +kernel⟩
theorem scFollows : FnScope ["self", "other", "ahead", "behind"] ["self", "other"] (defScope sFollows) := ⟨rfl, rfl, rfl, by decide +kernel, rfl, by decide +kernel, by decide +kernel⟩
theorem scBag : FnScope ["_law_script", "_law_cell"] ["_law_script"] (defScope sBag) := ⟨rfl, rfl, rfl, by decide +kernel, rfl, by decide +kernel, by decide +kernel⟩
theorem scTake : FnScope ["_law_bag_here", "_law_many", "_law_cell", "_law_mixed_here", "_law_value", "_law_begin", "_law_second"] ["_law_bag_here", "_law_many"] (defScope sTake) := ⟨rfl, rfl, rfl, by decide +kernel, rfl, by decide +kernel, by decide +kernel⟩
theorem scMixed : FnScope ["_law_bag_here", "_law_things", "_law_found", "_law_thing"] ["_law_bag_here", "_law_things"] (defScope sMixed) := ⟨rfl, rfl, rfl, by decide +kernel, rfl, by decide +kernel, by decide +kernel⟩
theorem scOne : FnScope ["_law_bag_here", "_law_things"] ["_law_bag_here", "_law_things"] (defScope sOne) := ⟨rfl, rfl, rfl, by decide +kernel, rfl, by decide +kernel, by decide +kernel⟩
theorem scLMarks : FnScope ["_law_bag_here", "_law_many", "_law_menu", "_law_way", "_law_turn", "_law_letters", "_law_stem", "_law_k"] ["_law_bag_here", "_law_many"] (defScope sLMarks) := ⟨rfl, rfl, rfl, by decide +kernel, rfl, by decide +kernel, by decide +kernel⟩
theorem scLot : FnScope ["_law_bag_here", "_law_marks_here", "_law_mark"] ["_law_bag_here", "_law_marks_here"] (defScope sLot) := ⟨rfl, rfl, rfl, by decide +kernel, rfl, by decide +kernel, by decide +kernel⟩
theorem scFew : FnScope ["_law_bag_here", "_law_marks_here", "_law_many"] ["_law_bag_here", "_law_marks_here", "_law_many"] (defScope sFew) := ⟨rfl, rfl, rfl, by decide +kernel, rfl, by decide +kernel, by decide +kernel⟩
theorem scRule : FnScope ["_law_bag_here", "_law_marks_here", "_law_way", "_law_ahead"] ["_law_bag_here", "_law_marks_here"] (defScope sRule) := ⟨rfl, rfl, rfl, by decide +kernel, rfl, by decide +kernel, by decide +kernel⟩
theorem scSomeRows : FnScope ["_law_bag_here", "_law_marks_here", "_law_many", "_law_found", "_law_k"] ["_law_bag_here", "_law_marks_here", "_law_many"] (defScope sSomeRows) := ⟨rfl, rfl, rfl, by decide +kernel, rfl, by decide +kernel, by decide +kernel⟩
theorem scPairRight : FnScope ["_law_rules", "_law_one_here", "_law_other", "_law_first", "_law_second"] ["_law_rules", "_law_one_here", "_law_other"] (defScope sPairRight) := ⟨rfl, rfl, rfl, by decide +kernel, rfl, by decide +kernel, by decide +kernel⟩
theorem scMoreRight : FnScope ["_law_bag_here", "_law_rules", "_law_marks_here", "_law_lot_here", "_law_row", "_law_wide"] ["_law_bag_here", "_law_rules", "_law_marks_here", "_law_lot_here"] (defScope sMoreRight) := ⟨rfl, rfl, rfl, by decide +kernel, rfl, by decide +kernel, by decide +kernel⟩
theorem scLaw : FnScope ["_law_script", "_law_bag_here", "_law_turn", "_law_marks_here", "_law_rules", "_law_every", "_law_lot_here", "_law_found", "_law_one_here", "_law_k", "_law_other", "_law_row"] ["_law_script"] (defScope sLaw) := ⟨rfl, rfl, rfl, by decide +kernel, rfl, by decide +kernel, by decide +kernel⟩
end K16
/-! K16Key: rank(lot) run at the machine's level (it keeps all that stood), and sorted(lots, key=rank) as a rule. -/
namespace K16
open PySem PySem.Spec PyProof.Rows L2
/-- a name of the def, loaded: the state stays -/
theorem ld_var {X : Cx} {pins : List (Addr × Obj)} {σ : L2.St} {H : Hp} {s : Shared} {E : Value → Shared → Prop} {i : Nat} {x : PySem.Str} {v : V} {pos : Pos} (I : Inv X pins σ H s) (hN : X.N[i]? = some x) (hv : Vis X.env.scope x) (e : σ[i]? = some (some v))
    (hd : (x == ("__debug__" : PySem.Str)) = false := by decide) (hcd : (x == ("__classdict__" : PySem.Str)) = false := by decide) :
    ∃ u, RelV v u ∧ ∀ Q : Value → Shared → Prop, Q u s → wpAny (model X.prog X.w) X.A (eval (.Name x pos) X.env) Q E s := by
  obtain ⟨m, hn, hl⟩ := I.loc
  obtain ⟨u, r, l⟩ := hl i x v hN e hv
  refine ⟨u, r, fun Q q => ?_⟩
  rcases l with ⟨hk, hm⟩ | ⟨hk, c, hc, hcell⟩
  · exact wpAny_Name (wpAny_loadName_local I.ok.kind hk hn hm q) hd
  · rcases hk with hk | hk
    · exact wpAny_Name (wpAny_loadName_cell I.ok.kind hk hc hcell q) hd
    · exact wpAny_Name (wpAny_loadName_free I.ok.kind hk hc hcell q hcd) hd
theorem reads_strs {h : Heap} : ∀ {us : List Value} {xs : List PySem.Str}, StrsAre us xs → ReadsAll h us (xs.map PyData.str) []
  | _, _, .nil => .nil
  | _, _, .cons n t r => ReadsAll.cons (as := []) (bs := []) (.str n t) (reads_strs r)
theorem alike_strs : ∀ xs ys : List PySem.Str, PySem.W.alikeAll (xs.map PyData.str) (ys.map PyData.str) = true
  | [], _ => by simp [PySem.W.alikeAll]
  | _ :: _, [] => by simp [PySem.W.alikeAll]
  | x :: xs, y :: ys => by
    rw [List.map_cons, List.map_cons, PySem.W.alikeAll, alike_strs xs ys, PySem.W.alike]
    rfl
theorem depth_strs : ∀ xs : List PySem.Str, PyData.depthAll (xs.map PyData.str) = 0
  | [] => rfl
  | x :: xs => by
    rw [List.map_cons, PyData.depthAll, depth_strs xs, PyData.depth]
    rfl
/-- the key of a lot -/
def rankD (xs : List PySem.Str) : PyData := .tuple [.int xs.length, .tuple (xs.map PyData.str)]
theorem rank_alike (xs ys : List PySem.Str) : PySem.W.alike (rankD xs) (rankD ys) = true := by
  unfold rankD
  simp only [PySem.W.alike, PySem.W.alikeAll, alike_strs, Bool.and_self]
theorem rank_depth (xs : List PySem.Str) : (rankD xs).depth ≤ 2 := by
  unfold rankD
  simp only [PyData.depth, PyData.depthAll, depth_strs]
  omega
section
variable {P : Program} {w : World} {K : PySem.W.Frag} {mg : PySem.Str → Option Value} {base : Heap}
theorem rank_run {f : Addr} {fd : FuncData} (F : Fun K "rank" "rank" sRank f fd) (hb : Binds K fd ["lot"] []) (mL : mg "len" = none) {A : Around} {outer : List Env} {s : Shared} {H : Hp} {a : Addr} {xs : List PySem.Str} (hr : Room 1 A) (e0 : Env0 P w K mg base A outer s H)
    (ha : H a = some (.tup (xs.map V.str))) : wpAny (model P w) A (call (.ref f) [.ref a]) (PySem.W.KeyPure (rankD xs) s) (fun _ _ => False) s := by
  obtain ⟨oc, od, kV, doc, pm, an, cdv, ct, osl, rfl, lk, hcd⟩ := F.ex
  have KX : K.In s.heap := e0.mod.kin.keeps fun b o e => (e0.bs b o e).1
  have lim : s.heap.NoLimit := e0.mod.nolimit.keeps fun b o e => (e0.bs b o e).1
  refine wpAny_call (codeAny_call_function hr.depth (KX _ _ lk) rfl scRank.co scRank.gen rfl (PySem.W.codeRec_of KX hcd) (hb s [.ref a] KX rfl _ _ _ _ ?_))
  refine wpAny_newFunctionEnv_cells scRank.kind (fun y hy => ?_) fun env he s1 x => ?_
  · rcases scRank.par y.1 (List.of_mem_zip hy).1 with q | q
    · exact .inl q
    · exact .inr ⟨q, PySem.W.cellsFrom_some _ _ _ (.inl q)⟩
  subst he
  refine ⟨lim.keeps x.toInCall.keep, codeAny_func ?_⟩
  have I : Inv (cxOf CX0 P w K mg base ["lot"] "rank" (defScope sRank) f cdv A outer s H fun _ _ _ => False) [] (start ["lot"] [.ref a]) H s1 := inv_start scRank hr.hd e0 rfl (.cons rfl .nil) x
  obtain ⟨h1, tk, es1, hk⟩ := x.done
  subst es1
  show wpAny (model P w) _ (execs [.Return (some (.Tuple [.Call (.Name "len" _) [.Name "lot" _] [] _, .Name "lot" _] _ _)) _] _) _ _ _
  refine wpAny_execs_cons (wpAny_Return_some (wpAny_Tuple_spliced ?_))
  refine Calls.spliced_cons ?_
  refine wpAny_Call_Name_kw (ld_blt I (by rfl) mL PySem.boot_len ?_ (by decide) (by decide))
  refine PyProof.Rows.callWith_builtin1 ?_ (by rfl) (by rfl)
  refine Calls.spliced_cons ?_
  obtain ⟨u, ru, ld⟩ := ld_var (i := 0) (x := "lot") (pos := _) (E := _) I rfl (Or.inl rfl) rfl
  cases (show u = Value.ref a from ru)
  refine ld _ (Calls.spliced_nil ?_)
  obtain ⟨its, r, pl, hz⟩ := I.tuple (SqT.of ha)
  have hlen := r.length
  rw [List.length_map] at hlen
  refine len_tuple pl (by simp only [List.size_toArray]; rw [sizeLine_eq] at hz; rw [List.length_map] at hz; omega) ?_
  refine Calls.spliced_cons ?_
  have I2 := I.tok (tk + 1 + 1)
  obtain ⟨u2, ru2, ld2⟩ := ld_var (i := 0) (x := "lot") (pos := _) (E := _) I2 rfl (Or.inl rfl) rfl
  cases (show u2 = Value.ref a from ru2)
  refine ld2 _ (Calls.spliced_nil ⟨by show 2 ≤ sizeLine; decide, ?_⟩)
  refine ⟨_, _, rfl, fun b o e => Heap.get?_push_of_some _ (hk b o e), ?_⟩
  obtain ⟨o, g1, g2, n, g3⟩ := pl
  refine Reads.tuple (Heap.get?_push_size _ rfl) rfl rfl (ReadsAll.cons (as := []) (bs := []) ?_ (ReadsAll.cons (as := []) (bs := []) ?_ .nil))
  · have e : (its.toArray.size : Int) = (xs.length : Int) := by
      simp only [List.size_toArray]
      rw [← hlen]
    rw [e]
    exact .int _ _
  · exact Reads.tuple (Heap.get?_push_of_some _ g1) g2 g3 (reads_strs (by simpa using r.strs))
end
theorem each_refs : ∀ {bs : List (Addr × List PySem.Str)} {us : List Value}, Vals (bs.map fun b => V.ref b.1) us → PySem.W.EachIs (fun (v : Value) (b : Addr × List PySem.Str) => v = .ref b.1) us bs
  | [], _, .nil => .nil
  | b :: bs, _, .cons r t => .cons r (each_refs t)
theorem refs_each : ∀ {bs : List (Addr × List PySem.Str)} {us : List Value}, PySem.W.EachIs (fun (v : Value) (b : Addr × List PySem.Str) => v = .ref b.1) us bs → Vals (bs.map fun b => V.ref b.1) us
  | _, _, .nil => .nil
  | _, _, .cons r t => .cons r (refs_each t)
section
variable {X : Cx}
/-- sorted(lots, key=rank): the same lots in some order, a new list -/
def rSortRank (K : PySem.W.Frag) (f : Addr) : List V → List V → Hp → VK → Prop := fun vs zs H Q => ∃ (a : Addr) (bs : List (Addr × List PySem.Str)), vs = [V.ref a] ∧ zs = [V.ref f] ∧ SqL K H a (bs.map fun b => V.ref b.1) ∧
  (∀ b ∈ bs, H b.1 = some (.tup (b.2.map V.str))) ∧ ∀ (cs : List (Addr × List PySem.Str)) (p : Addr), cs.Perm bs → H p = none → Q (.ref p) (upd H p (.lst (cs.map fun b => V.ref b.1)))
theorem cr_sortRank {f : Addr} {fd : FuncData} (F : Fun X.K "rank" "rank" sRank f fd) (hb : Binds X.K fd ["lot"] []) (mL : X.mg "len" = none) (hr : Room 4 X.A) : CallRK X (.builtin "sorted") [PySem.Str.ofString "key"] (rSortRank X.K f) := by
  intro pins s σ H vs zs us ws Q I r rz h
  obtain ⟨a, bs, rfl, rfl, hs, hbs, q⟩ := h
  obtain ⟨its, rv, hl, hz⟩ := I.list hs
  rw [Vals.ref1 r]
  obtain ⟨w1, rfl, e1⟩ := vals1 rz
  obtain rfl : w1 = Value.ref f := e1
  have hzl : bs.length ≤ sizeLine := by
    rw [List.length_map] at hz
    exact hz
  refine PySem.W.sorted_key_data (b := false) (R := fun (v : Value) (b : Addr × List PySem.Str) => v = .ref b.1) (fun b : Addr × List PySem.Str => rankD b.2) hl.isList (each_refs rv) (PySem.W.AllAlike.of fun b b' => rank_alike b.2 b'.2) (PySem.W.Sortable.tuples fun b => ⟨_, _, rfl⟩) hzl (fun b _ => ?_)
    (PyProof.Rows.ksk_s1 _ _) (fun _ => PyProof.Rows.ksk_l1 _ _) (fun _ => PyProof.Rows.ksk_t1 _ _) (fun v b hv hm h tk kp => ?_) fun out c h' tk kp _ hD hlen eo => ?_
  · have d := rank_depth b.2
    have u := hr.un
    omega
  · subst hv
    have I1 : Inv X pins σ H { s with heap := h, toks := tk } := I.kept kp
    exact rank_run F hb mL ((hr.mono (by decide : 3 ≤ 4)).in1.in1) I1.env0.in1.in1 (hbs b hm)
  · have pm : (bs.mergeSort (PySem.W.dataLe false fun b : Addr × List PySem.Str => rankD b.2)).Perm bs := List.mergeSort_perm _ _
    have fr : H (s.heap.objs.size + 1) = none := I.hok.fresh (Nat.le_succ _)
    refine ⟨.ref _, upd H (s.heap.objs.size + 1) (.lst ((bs.mergeSort (PySem.W.dataLe false fun b : Addr × List PySem.Str => rankD b.2)).map fun b => V.ref b.1)), I.laid (t' := tk) kp (Nat.le_succ _) ⟨?_, out, c, refs_each eo, hD⟩, rfl, q _ _ pm fr⟩
    rw [List.length_map, pm.length_eq]
    exact hzl
end
end K16
/-! K16Lc: a comprehension whose tests and elements leave all that stood, over any walk; small heap words. -/
namespace K16
open PySem PySem.Spec PyProof.Rows L2
/-! ### heaps -/
theorem same_upd {H : Hp} {p : Addr} {o : HO} (h : H p = none) : Same H (upd H p o) := fun b x e => by
  rw [upd_ne (ne_of_none e h)]
  exact e
/-- all but the object at b as it was -/
def Sb (b : Addr) (H H' : Hp) : Prop := ∀ c o, c ≠ b → H c = some o → H' c = some o
theorem Sb.refl (b : Addr) (H : Hp) : Sb b H H := fun _ _ _ h => h
theorem Sb.trans {b : Addr} {H H1 H2 : Hp} (h : Sb b H H1) (k : Sb b H1 H2) : Sb b H H2 := fun c o n e => k c o n (h c o n e)
theorem Sb.of {b : Addr} {H H' : Hp} (h : Same H H') : Sb b H H' := fun c o _ e => h c o e
theorem sb_upd {b : Addr} {H : Hp} {o : HO} : Sb b H (upd H b o) := fun c u n e => by
  rw [upd_ne n]
  exact e
section
variable {J : It} {n : Nat} {G : Hp → Prop} {Y : Nat → Hp → V → Hp → Prop}
/-- the items of src for which bv, each as fv, in a new list at D -/
theorem lc_same {α : Type} (w : L2.Walk J n G Y) (src : List α) (enc : α → V) (bv : α → Bool) (fv : α → V) (hn : n = src.length) (hY : ∀ i H x H', i < n → Y i H x H' → H' = H ∧ ∃ a, src[i]? = some a ∧ x = enc a) {g : TG} {tt : TT} {te : TE} {vs : List Nat} {σ : L2.St} {H1 : Hp} {D : Addr}
    {Qd : Hp → Prop} (hD : H1 D = none) (hG : ∀ H, Same H1 H → G H) (hz : src.length < sizeLine)
    (turn : ∀ a, a ∈ src → ∀ H3, Same H1 H3 → ∀ (C : V → Hp → Prop) (N : Hp → Prop), (bv a = true → ∀ H4, Same H3 H4 → C (fv a) H4) → (bv a = false → ∀ H4, Same H3 H4 → N H4) →
      g (enc a) (wipe σ vs) H3 fun σ2 H2 => wipe σ2 vs = wipe σ vs ∧ tt σ2 H2 fun b H4 => if b = true then te σ2 H4 C else N H4)
    (fin : ∀ H', Same H1 H' → H' D = some (.lst ((src.filter bv).map fv)) → Qd H') :
    ∃ W : Nat → Nat → Hp → Prop, (∃ m, W 0 m (upd H1 D (.lst []))) ∧ ∀ i m H, W i m H →
      (J.stop i H ∧ Qd H) ∨ (J.go i H ∧ ∃ Nx : Hp → Prop, (∀ H', Nx H' → ∃ m', m' < m ∧ W (i + 1) m' H') ∧ ∀ x H', J.yld i H x H' → g x (wipe σ vs) H' fun σ2 H2 => wipe σ2 vs = wipe σ vs ∧ tt σ2 H2 fun b H3 =>
        if b = true then te σ2 H3 fun y H4 => ∃ acc, H4 D = some (.lst acc) ∧ acc.length < sizeLine ∧ Nx (upd H4 D (.lst (acc ++ [y]))) else Nx H3) := by
  have up : ∀ {H4 : Hp} {l : List V}, Same H1 H4 → Same H1 (upd H4 D (.lst l)) := fun s b o e => by
    rw [upd_ne (ne_of_none e hD)]
    exact s b o e
  refine lc_it w (fun i H => Same H1 H ∧ H D = some (.lst (((src.take i).filter bv).map fv))) ⟨up (Same.refl _), upd_same⟩ (fun i H _ h => hG H h.1) (fun i x H H' hi h y => ?_) fun H h => ?_
  · obtain ⟨rfl, a, ha, rfl⟩ := hY i H x H' hi y
    obtain ⟨s, hd⟩ := h
    have mem : a ∈ src := List.mem_of_getElem? ha
    have hl : (((src.take i).filter bv).map fv).length < sizeLine := by
      rw [List.length_map]
      exact Nat.lt_of_le_of_lt (List.length_filter_le _ _) (Nat.lt_of_le_of_lt (by rw [List.length_take]; exact Nat.min_le_right _ _) hz)
    refine turn a mem _ s _ _ (fun hb H4 s4 => ⟨_, s4 D _ hd, hl, up (s.trans s4), ?_⟩) fun hb H4 s4 => ⟨s.trans s4, ?_⟩
    · rw [upd_same, List.take_add_one, ha, List.filter_append, List.map_append]
      simp [hb]
    · rw [s4 D _ hd, List.take_add_one, ha, List.filter_append, List.map_append]
      simp [hb]
  · obtain ⟨s, hd⟩ := h
    rw [hn, List.take_of_length_le (Nat.le_refl _)] at hd
    exact fin H s hd
end
theorem yat {α : Type} {src : List α} {enc : α → V} {n : Nat} (hn : n = src.length) : ∀ i H x H', i < n → YAt (src.map enc) i H x H' → H' = H ∧ ∃ a, src[i]? = some a ∧ x = enc a := fun i H x H' hi y => by
  obtain ⟨e, h⟩ := y
  refine ⟨e, ?_⟩
  rw [List.getElem?_map] at h
  obtain ⟨a, h1, h2⟩ := Option.map_eq_some_iff.mp h
  exact ⟨a, h1, h2.symm⟩
end K16
/-! K16Lots: lots.py, def by def. -/
namespace K16
open PySem PySem.Spec PyProof.Rows L2
/-- the built-in names that stand as they were -/
structure Blt (mg : PySem.Str → Option Value) : Prop where
  tuple : mg "tuple" = none
  sorted : mg "sorted" = none
  set : mg "set" = none
  len : mg "len" = none
  all : mg "all" = none
  isi : mg "isinstance" = none
  int : mg "int" = none
  bool : mg "bool" = none
  str : mg "str" = none
  list : mg "list" = none
  range : mg "range" = none
  abs : mg "abs" = none
/-- a def of the module as the top has left it -/
structure At (K : PySem.W.Frag) (mg : PySem.Str → Option Value) (x : PySem.Str) (st : Stmt) (ps : List PySem.Str) : Prop where
  ex : ∃ (f : Addr) (fd : FuncData), Fun K x x st f fd ∧ mg x = some (.ref f) ∧ Binds K fd ps []
/-- a def of the module with its promise -/
structure Dn (P : Program) (w : World) (K : PySem.W.Frag) (mg : PySem.Str → Option Value) (base : Heap) (k : Nat) (x : PySem.Str) (sp : Sp) : Prop where
  ex : ∃ (f : Addr) (fd : FuncData) (ps : List PySem.Str), FnOk P w K mg base CX0 k f fd ps sp ∧ mg x = some (.ref f) ∧ PySem.W.keepIn K (.ref f) = true ∧ Binds K fd ps []
theorem pe_d {X : Cx} {k j : Nat} {x : PySem.Str} {sp : Sp} {e : Expr} {es : List Expr} {t : TA} {p pos : Pos} (c : Dn X.prog X.w X.K X.mg X.base k x sp) (hr : Room j X.A) (hg : Gl X x) (ha : PA X (e :: es) t) (hk : k ≤ j := by decide)
    (hdb : (x == ("__debug__" : PySem.Str)) = false := by decide) (he : starEach (e :: es) X.env = (false, eval e X.env) :: starEach es X.env := by rfl) (hpl : (backTo pos (starEach es X.env)).any (·.1) = false := by rfl) :
    PE X (.Call (.Name x p) (e :: es) [] pos) (tCall sp [] E0 t) := by
  obtain ⟨f, fd, ps, F, hm, kp, b⟩ := c.ex
  exact pe_call F (hr.mono hk) hg hm kp b .nil pass0 ha hdb he hpl
/-! ### lots in the heap -/
/-- a lot of few marks stands at a -/
def LotAt (H : Hp) (a : Addr) (xs : Lot) : Prop := H a = some (.tup (xs.map V.str)) ∧ xs.length ≤ 20
theorem LotAt.same {H H' : Hp} {a : Addr} {xs : Lot} (h : LotAt H a xs) (s : Same H H') : LotAt H' a xs := ⟨s _ _ h.1, h.2⟩
theorem LotAt.sb {H H' : Hp} {a b : Addr} {xs : Lot} {l : List V} (h : LotAt H a xs) (hb : H b = some (.lst l)) (s : Sb b H H') : LotAt H' a xs := ⟨s _ _ (ne_of h.1 hb (by intro z; cases z)) h.1, h.2⟩
theorem LotAt.seq {K : PySem.W.Frag} {H : Hp} {a : Addr} {xs : Lot} (h : LotAt H a xs) : SqT K H a (xs.map V.str) := SqT.of h.1
theorem few {xs : Lot} (h : xs.length ≤ 20) : xs.length < sizeLine := Nat.lt_of_le_of_lt h (by decide)
theorem flat_lot (ys : Lot) : (ys.map V.str).all flatV = true := List.all_eq_true.mpr fun v hv => by
  obtain ⟨y, _, rfl⟩ := List.mem_map.mp hv
  rfl
theorem inV_lot (x : PySem.Str) (ys : Lot) : inV (.str x) (ys.map V.str) = decide (x ∈ ys) := by
  unfold inV
  rw [List.any_map]
  cases e : ys.any ((fun y => eqV y (.str x)) ∘ V.str) with
  | true =>
    obtain ⟨y, hy, q⟩ := List.any_eq_true.mp e
    have q' : (y == x) = true := q
    have e' : y = x := beq_iff_eq.mp q'
    subst e'
    exact (decide_eq_true hy).symm
  | false =>
    refine (decide_eq_false fun m => ?_).symm
    have q := List.any_eq_false.mp e x m
    exact q (show (x == x) = true from beq_self_eq_true x)
section
variable {P : Program} {w : World} {K : PySem.W.Frag} {mg : PySem.Str → Option Value} {base : Heap}
/-! ### within -/
def spWithin : Sp := fun vs H Q _ => ∃ (a b : Addr) (xs ys : Lot), vs = [.ref a, .ref b] ∧ LotAt H a xs ∧ LotAt H b ys ∧ ∀ H', Same H H' → Q (.bl (wi xs ys)) H'
theorem ok_within (A : At K mg "within" sWithin ["one", "other"]) (B : Blt mg) : Dn P w K mg base 1 "within" spWithin := by
  obtain ⟨f, fd, F, hm, hb⟩ := A.ex
  refine ⟨f, fd, _, F.ok scWithin (fun vs H Q E h => ?_) (fun cdv A outer s H vs Q E hr h => ?_), hm, F.kp, hb⟩
  · obtain ⟨a, b, xs, ys, rfl, _⟩ := h
    rfl
  · obtain ⟨a, b, xs, ys, rfl, hx, hy, q⟩ := h
    refine ⟨_, pss_one (ps_ret (pe_callB (cr_all rfl) (by rfl) B.all PyProof.Rows.boot_all (pa_cons
      (pe_lc (own := [("mark", 2)]) (g := gName 2) (tt := tYes) (te := tOp (rIn K false) (tVar 2) (tVar 1)) rfl scWithin.nd (pi_tup (pv 0)) (blkOk_by (own := [("mark", 2)]) (N := ["one", "other", "mark"]) (sc := defScope sWithin) (by decide +kernel))
        (fun _ _ _ _ _ => pg_name (i := 2) scWithin.nd rfl (Or.inl rfl)) (fun _ _ _ _ _ => pts_nil) (fun _ _ _ _ _ => pe_cmpR op_in_seq (pv 2) (pv 1) rfl)) pa_nil))), ?_⟩
    refine ⟨_, rfl, a, rfl, ⟨_, hx.seq⟩, fun D hD => ?_⟩
    refine lc_same (w := walk_tup (K := K) (a := a) (xs := xs.map V.str)) xs V.str (fun _ => true) (fun x => .bl (decide (x ∈ ys))) (List.length_map _) (yat (List.length_map _)) hD (fun H3 s3 => (hx.same s3).seq) (few hx.2)
      (fun x hx3 H3 s3 C N c n => ?_) fun H' s' hd => ?_
    · refine ⟨rfl, ?_⟩
      refine ⟨_, rfl, _, rfl, b, _, rfl, .inr (hy.same s3).seq, rfl, flat_lot ys, ?_⟩
      have e := c rfl H3 (Same.refl _)
      rw [← inV_lot] at e
      exact e
    · refine ⟨D, xs.map fun x => decide (x ∈ ys), rfl, SqL.of ?_, ?_⟩
      · rw [hd, List.filter_eq_self.mpr (fun _ _ => rfl), List.map_map]
        rfl
      · have e : (xs.map fun x => decide (x ∈ ys)).all id = wi xs ys := by
          unfold wi
          rw [List.all_map]
          rfl
        rw [e]
        exact q H' s'
/-! ### lot_of -/
def spLotOf (K : PySem.W.Frag) : Sp := fun vs H Q _ => ∃ (a : Addr) (xs : Lot), vs = [.ref a] ∧ H a = some (.lst (xs.map V.str)) ∧ xs.length < 64 ∧
  ∀ H' p ys, Same H H' → H' p = some (.tup (ys.map V.str)) → Srt ys → (∀ x, x ∈ ys ↔ x ∈ xs) → Q (.ref p) H'
theorem ok_lotOf (A : At K mg "lot_of" sLotOf ["marks"]) (B : Blt mg) : Dn P w K mg base 1 "lot_of" (spLotOf K) := by
  obtain ⟨f, fd, F, hm, hb⟩ := A.ex
  refine ⟨f, fd, _, F.ok scLotOf (fun vs H Q E h => ?_) (fun cdv A outer s H vs Q E hr h => ?_), hm, F.kp, hb⟩
  · obtain ⟨a, xs, rfl, _⟩ := h
    rfl
  · obtain ⟨a, xs, rfl, ha, h64, q⟩ := h
    refine ⟨_, pss_one (ps_ret (pe_callTy call_tuple_of (by rfl) B.tuple PyProof.Rows.boot_tuple (pa_cons (pe_callB (cr_sortTx rfl) (by rfl) B.sorted PyProof.Rows.boot_sorted (pa_cons
      (pe_callTy (cr_setTx rfl) (by rfl) B.set PyProof.Rows.boot_set (pa_cons (pv 0) pa_nil)) pa_nil)) pa_nil))), ?_⟩
    refine ⟨_, rfl, a, xs, rfl, SqL.of ha, h64, fun ys p nd hl hx hp => ?_⟩
    have s1 : Same H (upd H p (SetTx P w p ys)) := same_upd hp
    refine ⟨p, ys, rfl, upd_same, nd, by omega, fun zs r hz hm hr => ?_⟩
    have s2 := s1.trans (same_upd hr (o := .lst (zs.map V.str)))
    refine ⟨r, _, rfl, .inl ⟨SqL.of upd_same, fun l hl => ?_⟩⟩
    exact q _ l zs (s2.trans (same_upd hl)) upd_same hz fun x => (hm x).trans (hx x)
/-! ### joined, common -/
theorem lot_len {xs M : Lot} (h : Srt xs) (m : ∀ x ∈ xs, x ∈ M) (z : M.length ≤ 20) : xs.length ≤ 20 := Nat.le_trans (nodup_le h.nodup m) z
def spJoined : Sp := fun vs H Q _ => ∃ (a b : Addr) (xs ys M : Lot), vs = [.ref a, .ref b] ∧ LotAt H a xs ∧ LotAt H b ys ∧ M.length ≤ 20 ∧ (∀ x ∈ xs, x ∈ M) ∧ (∀ x ∈ ys, x ∈ M) ∧
  ∀ H' p zs, Same H H' → LotAt H' p zs → Srt zs → (∀ x, x ∈ zs ↔ x ∈ xs ∨ x ∈ ys) → Q (.ref p) H'
theorem ok_joined (A : At K mg "joined" sJoined ["one", "other"]) (G : Dn P w K mg base 1 "lot_of" (spLotOf K)) : Dn P w K mg base 2 "joined" spJoined := by
  obtain ⟨f, fd, F, hm, hb⟩ := A.ex
  refine ⟨f, fd, _, F.ok scJoined (fun vs H Q E h => ?_) (fun cdv A outer s H vs Q E hr h => ?_), hm, F.kp, hb⟩
  · obtain ⟨a, b, xs, ys, M, rfl, _⟩ := h
    rfl
  · obtain ⟨a, b, xs, ys, M, rfl, hx, hy, hM, mx, my, q⟩ := h
    refine ⟨_, pss_one (ps_ret (pe_d G hr (by rfl) (pa_cons (pe_lst (StX.pa_star (pv 0) (StX.pa_star (pv 1) pa_nil))) pa_nil))), ?_⟩
    refine ⟨_, rfl, a, _, rfl, .inl hx.seq, _, rfl, b, _, rfl, .inl hy.seq, ?_⟩
    have hz : ((xs.map V.str) ++ ((ys.map V.str) ++ [])).length ≤ 40 := by
      have h1 := hx.2
      have h2 := hy.2
      rw [List.append_nil, List.length_append, List.length_map, List.length_map]
      omega
    refine ⟨Nat.le_trans hz (by decide), fun l hl => ?_⟩
    have s1 : Same H (upd H l (.lst ((xs.map V.str) ++ ((ys.map V.str) ++ [])))) := same_upd hl
    refine ⟨l, xs ++ ys, rfl, ?_, ?_, fun H' p zs s2 hp hz hm => ?_⟩
    · rw [upd_same, List.append_nil, List.map_append]
    · have h1 := hx.2
      have h2 := hy.2
      rw [List.length_append]
      omega
    · have hm' : ∀ x, x ∈ zs ↔ x ∈ xs ∨ x ∈ ys := fun x => (hm x).trans List.mem_append
      exact q H' p zs (s1.trans s2) ⟨hp, lot_len hz (fun x hx => ((hm' x).mp hx).elim (mx x) (my x)) hM⟩ hz hm'
def spCommon : Sp := fun vs H Q _ => ∃ (a b : Addr) (xs ys : Lot), vs = [.ref a, .ref b] ∧ LotAt H a xs ∧ LotAt H b ys ∧ ∀ H' p, Same H H' → LotAt H' p (xs.filter fun x => decide (x ∈ ys)) → Q (.ref p) H'
theorem ok_common (A : At K mg "common" sCommon ["one", "other"]) (B : Blt mg) : Dn P w K mg base 1 "common" spCommon := by
  obtain ⟨f, fd, F, hm, hb⟩ := A.ex
  refine ⟨f, fd, _, F.ok scCommon (fun vs H Q E h => ?_) (fun cdv A outer s H vs Q E hr h => ?_), hm, F.kp, hb⟩
  · obtain ⟨a, b, xs, ys, rfl, _⟩ := h
    rfl
  · obtain ⟨a, b, xs, ys, rfl, hx, hy, q⟩ := h
    refine ⟨_, pss_one (ps_ret (pe_callTy call_tuple_of (by rfl) B.tuple PyProof.Rows.boot_tuple (pa_cons
      (pe_lc (own := [("mark", 2)]) (g := gName 2) (tt := tTest (tOp (rIn K false) (tVar 2) (tVar 1))) (te := tVar 2) rfl scCommon.nd (pi_tup (pv 0)) (blkOk_by (own := [("mark", 2)]) (N := ["one", "other", "mark"]) (sc := defScope sCommon) (by decide +kernel))
        (fun _ _ _ _ _ => pg_name (i := 2) scCommon.nd rfl (Or.inl rfl)) (fun _ _ _ _ _ => pts_one (pt_cmpR op_in_seq (pv 2) (pv 1) rfl)) (fun _ _ _ _ _ => pv 2)) pa_nil))), ?_⟩
    refine ⟨_, rfl, a, rfl, ⟨_, hx.seq⟩, fun D hD => ?_⟩
    refine lc_same (w := walk_tup (K := K) (a := a) (xs := xs.map V.str)) xs V.str (fun x => decide (x ∈ ys)) V.str (List.length_map _) (yat (List.length_map _)) hD (fun H3 s3 => (hx.same s3).seq) (few hx.2)
      (fun x hx3 H3 s3 C N c n => ?_) fun H' s' hd => ?_
    · refine ⟨rfl, ?_⟩
      refine ⟨_, rfl, _, rfl, b, _, rfl, .inr (hy.same s3).seq, rfl, flat_lot ys, _, rfl, ?_⟩
      refine ite2 (fun e => ?_) (fun e => ?_)
      · have e' : decide (x ∈ ys) = true := (inV_lot x ys).symm.trans e
        exact ⟨_, rfl, c e' H3 (Same.refl _)⟩
      · have e' : decide (x ∈ ys) = false := (inV_lot x ys).symm.trans (by simpa using e)
        exact n e' H3 (Same.refl _)
    · refine ⟨D, _, rfl, .inl ⟨SqL.of hd, fun l hl => ?_⟩⟩
      exact q _ l (s'.trans (same_upd hl)) ⟨upd_same, Nat.le_trans (List.length_filter_le _ _) hx.2⟩
/-! ### in_order, all_lots -/
abbrev refs (bs : List (Addr × Lot)) : List V := bs.map fun b => V.ref b.1
def spInOrder : Sp := fun vs H Q _ => ∃ (a : Addr) (bs : List (Addr × Lot)), vs = [.ref a] ∧ H a = some (.lst (refs bs)) ∧ (∀ b ∈ bs, LotAt H b.1 b.2) ∧ ∀ H' p cs, Same H H' → H' p = some (.lst (refs cs)) → cs.Perm bs → Q (.ref p) H'
theorem ok_inOrder (A : At K mg "in_order" sInOrder ["lots"]) (R : At K mg "rank" sRank ["lot"]) (B : Blt mg) : Dn P w K mg base 5 "in_order" spInOrder := by
  obtain ⟨f, fd, F, hm, hb⟩ := A.ex
  obtain ⟨fr, fdr, FR, mr, br⟩ := R.ex
  refine ⟨f, fd, _, F.ok scInOrder (fun vs H Q E h => ?_) (fun cdv A outer s H vs Q E hr h => ?_), hm, F.kp, hb⟩
  · obtain ⟨a, bs, rfl, _⟩ := h
    rfl
  · obtain ⟨a, bs, rfl, ha, hbs, q⟩ := h
    refine ⟨_, pss_one (ps_ret (pe_callBK (cr_sortRank FR br B.len hr) (by rfl) B.sorted PyProof.Rows.boot_sorted (pa_cons (pv 0) pa_nil) (pk_cons (pe_glob (v := .ref fr) (by rfl) mr rfl) pk_nil))), ?_⟩
    refine ⟨_, rfl, a, bs, rfl, rfl, SqL.of ha, fun b hb => (hbs b hb).1, fun cs p pm hp => ?_⟩
    exact q _ p cs (same_upd hp) upd_same pm
end
end K16
/-! K16All: all_lots. -/
namespace K16
open PySem PySem.Spec PyProof.Rows L2
section
variable {P : Program} {w : World} {K : PySem.W.Frag} {mg : PySem.Str → Option Value} {base : Heap}
/-- a list of lots of M -/
def LotsOf (H : Hp) (M : Lot) (bs : List (Addr × Lot)) : Prop := ∀ b ∈ bs, LotAt H b.1 b.2 ∧ b.2.Sublist M
theorem LotsOf.same {H H' : Hp} {M : Lot} {bs : List (Addr × Lot)} (h : LotsOf H M bs) (s : Same H H') : LotsOf H' M bs := fun b hb => ⟨(h b hb).1.same s, (h b hb).2⟩
theorem LotsOf.wide {H : Hp} {M : Lot} {bs : List (Addr × Lot)} {i : Nat} (h : LotsOf H (M.take i) bs) (x : Lot) : LotsOf H (M.take i ++ x) bs := fun b hb => ⟨(h b hb).1, (h b hb).2.trans (List.sublist_append_left _ _)⟩
def spAllLots : Sp := fun vs H Q _ => ∃ (a : Addr) (M : Lot), vs = [.ref a] ∧ LotAt H a M ∧ M.length ≤ 6 ∧
  ∀ H' p bs, Same H H' → H' p = some (.lst (refs bs)) → LotsOf H' M bs → bs ≠ [] → bs.length ≤ 64 → Q (.ref p) H'
theorem pow64 {i : Nat} (h : i ≤ 6) : 2 ^ i ≤ 64 := Nat.le_trans (Nat.pow_le_pow_right (by decide) h) (by decide)
theorem ok_allLots (A : At K mg "all_lots" sAllLots ["marks"]) (G : Dn P w K mg base 5 "in_order" spInOrder) : Dn P w K mg base 6 "all_lots" spAllLots := by
  obtain ⟨f, fd, F, hm, hb⟩ := A.ex
  refine ⟨f, fd, _, F.ok scAllLots (fun vs H Q E h => ?_) (fun cdv A outer s H vs Q E hr h => ?_), hm, F.kp, hb⟩
  · obtain ⟨a, M, rfl, _⟩ := h
    rfl
  · obtain ⟨a, M, rfl, hM, h6, q⟩ := h
    refine ⟨_, pss_cons (ps_set (i := 1) scAllLots.nd rfl (.inl rfl) (pe_lst (pa_cons (pe_tup pa_nil) pa_nil)))
      (pss_cons (ps_for PassesOwn.never rfl (pi_tup (pv 0)) (pg_name (i := 2) scAllLots.nd rfl (Or.inr rfl))
        (pss_one (ps_expr (pe_bm PySem.F.plainAttrs_list PySem.F.slot_list_extend PySem.F.type_list_extend mt_extend (pv 1) (pa_cons
          (pe_lc (own := [("lot", 3)]) (g := gName 3) (tt := tYes) (te := tTup (StX.tStar K (tVar 3) (tCons (tVar 2) tNil))) rfl scAllLots.nd (pi_list (pv 1))
            (blkOk_by (own := [("lot", 3)]) (N := ["marks", "found", "mark", "lot"]) (sc := defScope sAllLots) (by decide +kernel))
            (fun _ _ _ _ _ => pg_name (i := 3) scAllLots.nd rfl (Or.inl rfl)) (fun _ _ _ _ _ => pts_nil) (fun _ _ _ _ _ => pe_tup (StX.pa_star (pv 3) (pa_cons (pv 2) pa_nil)))) pa_nil)))))
      (pss_one (ps_ret (pe_d G hr (by rfl) (pa_cons (pv 1) pa_nil))))), ?_⟩
    -- the list with the lot of no marks
    refine ⟨Nat.zero_le _, fun e he => ⟨by show 1 ≤ sizeLine; decide, fun l hl => ?_⟩⟩
    have s0 : Same H (upd H e (.tup [])) := same_upd he
    have s1 : Same H (upd (upd H e (.tup [])) l (.lst [.ref e])) := s0.trans (same_upd hl)
    have el : e ≠ l := fun z => by
      rw [z] at hl
      rw [upd_same] at hl
      cases hl
    -- each mark
    refine ⟨_, rfl, a, rfl, ⟨_, (hM.same s1).seq⟩, for_tup (K := K) (a := a) (xs := M.map V.str) (fun i σ H' => ∃ (y2 y3 : Option V) (bs : List (Addr × Lot)), σ = [some (.ref a), some (.ref l), y2, y3] ∧ Same H H' ∧ H' l = some (.lst (refs bs)) ∧ LotsOf H' (M.take i) bs ∧ bs ≠ [] ∧ bs.length ≤ 2 ^ i)
      ⟨none, none, [(e, [])], rfl, s1, upd_same, fun b hb => ?_, by simp, Nat.le_refl _⟩ (fun i σ H' _ ⟨_, _, _, _, s, _⟩ => (hM.same s).seq) ?_ ?_⟩
    · rw [List.mem_singleton] at hb
      subst hb
      exact ⟨⟨by rw [upd_ne el, upd_same]; rfl, Nat.zero_le _⟩, List.nil_sublist _⟩
    · rintro i x σ H' hi ⟨y2, y3, bs, rfl, s, hl', hb, hne, hlen⟩
      rw [List.getElem?_map] at hi
      obtain ⟨m, hm1, hm2⟩ := Option.map_eq_some_iff.mp hi
      subst hm2
      have hi6 : i < M.length := (List.getElem?_eq_some_iff.mp hm1).1
      have tk : M.take (i + 1) = M.take i ++ [m] := by
        rw [List.take_add_one, hm1]
        rfl
      -- all lots so far, once more with this mark
      refine ⟨_, rfl, .inl ⟨rfl, _, SqL.of hl'⟩, _, rfl, l, rfl, ⟨_, SqL.of hl'⟩, fun D hD => ?_⟩
      have lD : l ≠ D := ne_of_none hl' hD
      refine lc_list (K := K) (a := l) (xs := refs bs) (fun j H3 => Same H' H3 ∧ ∃ cs : List (Addr × Lot), H3 D = some (.lst (refs cs)) ∧ cs.length = j ∧ LotsOf H3 (M.take (i + 1)) cs)
        ⟨same_upd hD, [], upd_same, rfl, fun b hb => absurd hb List.not_mem_nil⟩ (fun j H3 _ h3 => SqL.of (h3.1 _ _ hl')) (fun j y H3 hj h3 => ?_) fun H3 h3 => ?_
      · obtain ⟨s3, cs, hd, hcl, hcs⟩ := h3
        rw [List.getElem?_map] at hj
        obtain ⟨b, hb1, hb2⟩ := Option.map_eq_some_iff.mp hj
        subst hb2
        have bm := hb b (List.mem_of_getElem? hb1)
        have jl : j < bs.length := (List.getElem?_eq_some_iff.mp hb1).1
        have z64 := pow64 (Nat.le_of_lt (Nat.lt_of_lt_of_le hi6 h6))
        have bl : b.2.length ≤ 6 := Nat.le_trans bm.2.length_le (by rw [List.length_take]; omega)
        refine ⟨rfl, ?_⟩
        refine ⟨_, rfl, b.1, _, rfl, .inl (bm.1.same s3).seq, _, rfl, ?_, fun p hp => ⟨refs cs, ?_, ?_, ?_⟩⟩
        · show (b.2.map V.str ++ [V.str m]).length ≤ sizeLine
          rw [List.length_append, List.length_map]
          exact Nat.le_trans (Nat.add_le_add_right bl 1) (by decide)
        · rw [upd_ne (ne_of_none hd hp)]
          exact hd
        · show (cs.map fun b => V.ref b.1).length < sizeLine
          rw [List.length_map]
          exact Nat.lt_of_le_of_lt (show cs.length ≤ 64 by omega) (by decide)
        · have Dp : D ≠ p := ne_of_none hd hp
          have s4 : Same H3 (upd H3 p (.tup (b.2.map V.str ++ [V.str m]))) := same_upd hp
          have up : ∀ c o, c ≠ D → (upd H3 p (.tup (b.2.map V.str ++ [V.str m]))) c = some o → (upd (upd H3 p (.tup (b.2.map V.str ++ [V.str m]))) D (.lst (refs cs ++ [.ref p]))) c = some o := fun c o n e => by
            rw [upd_ne n]
            exact e
          refine ⟨fun c o e => up c o (ne_of_none e hD) (s4 _ _ (s3 _ _ e)), cs ++ [(p, b.2 ++ [m])], ?_, by rw [List.length_append, hcl]; rfl, fun c hc => ?_⟩
          · rw [upd_same]
            show some (HO.lst (refs cs ++ [.ref p])) = some (HO.lst ((cs ++ [(p, b.2 ++ [m])]).map fun b => V.ref b.1))
            rw [List.map_append]
            rfl
          · rcases List.mem_append.mp hc with hc | hc
            · have h5 := hcs c hc
              have cD : c.1 ≠ D := ne_of h5.1.1 hd (by intro z; cases z)
              exact ⟨⟨up _ _ cD (s4 _ _ h5.1.1), h5.1.2⟩, h5.2⟩
            · rw [List.mem_singleton] at hc
              subst hc
              refine ⟨⟨up _ _ Dp.symm ?_, ?_⟩, ?_⟩
              · rw [upd_same, List.map_append]
                rfl
              · show (b.2 ++ [m]).length ≤ 20
                rw [List.length_append, List.length_singleton]
                omega
              · show (b.2 ++ [m]).Sublist (M.take (i + 1))
                rw [tk]
                exact bm.2.append (List.Sublist.refl _)
      · obtain ⟨s3, cs, hd, hcl, hcs⟩ := h3
        have z64 := pow64 (Nat.le_of_lt (Nat.lt_of_lt_of_le hi6 h6))
        have hl3 := s3 _ _ hl'
        rw [List.length_map] at hcl
        refine ⟨l, D, _, _, rfl, rfl, hl3, hd, ?_, ?_⟩
        · rw [List.length_map, List.length_map]
          exact Nat.le_trans (show bs.length + cs.length ≤ 128 by omega) (by decide)
        · refine ⟨some (.str m), _, bs ++ cs, rfl, fun c o e => ?_, ?_, fun c hc => ?_, ?_, ?_⟩
          · by_cases hc : c = l
            · exfalso
              subst hc
              have e2 := s1 _ _ e
              rw [upd_same] at e2
              have e3 : H c = none := by
                cases q9 : H c with
                | none => rfl
                | some o9 =>
                  have e4 := s0 _ _ q9
                  rw [hl] at e4
                  cases e4
              rw [e3] at e
              cases e
            · rw [upd_ne hc]
              exact s3 _ _ (s _ _ e)
          · rw [upd_same]
            show some (HO.lst (refs bs ++ refs cs)) = some (HO.lst ((bs ++ cs).map fun b => V.ref b.1))
            rw [List.map_append]
          · have h5 : LotAt H3 c.1 c.2 ∧ c.2.Sublist (M.take (i + 1)) := by
              rcases List.mem_append.mp hc with hc | hc
              · exact ⟨(hb c hc).1.same s3, by rw [tk]; exact (hb c hc).2.trans (List.sublist_append_left _ _)⟩
              · exact hcs c hc
            have cl : c.1 ≠ l := ne_of h5.1.1 hl3 (by intro z; cases z)
            exact ⟨⟨by rw [upd_ne cl]; exact h5.1.1, h5.1.2⟩, h5.2⟩
          · intro z
            exact hne (List.append_eq_nil_iff.mp z).1
          · rw [List.length_append, Nat.pow_succ]
            omega
    · rintro σ H' ⟨y2, y3, bs, rfl, s, hl', hb, hne, hlen⟩
      rw [List.length_map] at hb hlen
      refine ⟨_, rfl, l, bs, rfl, hl', fun b hb' => (hb b hb').1, fun H2 p cs s2 hp pm => ?_⟩
      refine q H2 p cs (s.trans s2) hp (fun c hc => ?_) (fun z => ?_) ?_
      · have h5 := hb c (pm.mem_iff.mp hc)
        rw [List.take_length] at h5
        exact ⟨h5.1.same s2, h5.2⟩
      · subst z
        exact hne (List.perm_nil.mp pm.symm)
      · rw [pm.length_eq]
        exact Nat.le_trans hlen (pow64 h6)
end
end K16
/-! K16Words: words.py, of values that are as described. -/
namespace K16
open PySem PySem.Spec PyProof.Rows L2
/-- a row of two lots stands at r -/
def RowAt (H : Hp) (r : Addr) (x : Row) : Prop := ∃ a b, H r = some (.tup [.ref a, .ref b]) ∧ LotAt H a x.1 ∧ LotAt H b x.2
theorem RowAt.same {H H' : Hp} {r : Addr} {x : Row} (h : RowAt H r x) (s : Same H H') : RowAt H' r x := by
  obtain ⟨a, b, h1, h2, h3⟩ := h
  exact ⟨a, b, s _ _ h1, h2.same s, h3.same s⟩
theorem RowAt.sb {H H' : Hp} {r b : Addr} {x : Row} {l : List V} (h : RowAt H r x) (hb : H b = some (.lst l)) (s : Sb b H H') : RowAt H' r x := by
  obtain ⟨p, q, h1, h2, h3⟩ := h
  exact ⟨p, q, s _ _ (ne_of h1 hb (by intro z; cases z)) h1, h2.sb hb s, h3.sb hb s⟩
abbrev letS : PySem.Str := PySem.Str.ofString "abcdefghijklmnopqrstuvwxyz"
abbrev rSign : R2 := fun x y H Q => ∃ (c : Nat) (z : PySem.Str), x = .str ⟨#[c]⟩ ∧ y = .str z ∧ Q (.bl (decide (c ∈ z.cps.toList))) H
abbrev rLtS : R2 := fun x y H Q => ∃ i j, x = .str i ∧ y = .str j ∧ Q (.bl (decide (i.cps.toList < j.cps.toList))) H
section
variable {P : Program} {w : World} {K : PySem.W.Frag} {mg : PySem.Str → Option Value} {base : Heap}
def spIsInteger : Sp := fun vs H Q _ => ∃ n : Int, vs = [.int n] ∧ Q (.bl true) H
theorem ok_isInteger (A : At K mg "is_integer" sIsInteger ["thing"]) (B : Blt mg) : Dn P w K mg base 1 "is_integer" spIsInteger := by
  obtain ⟨f, fd, F, hm, hb⟩ := A.ex
  refine ⟨f, fd, _, F.ok scIsInteger (fun vs H Q E h => ?_) (fun cdv A outer s H vs Q E hr h => ?_), hm, F.kp, hb⟩
  · obtain ⟨n, rfl, _⟩ := h
    rfl
  · obtain ⟨n, rfl, q⟩ := h
    refine ⟨_, pss_one (ps_ret (pe_and (pe_callB call_isi (by rfl) B.isi PyProof.Rows.boot_isinstance (pa_cons (pv 0) (pa_cons (pe_bltn (v := .ty "int") (by rfl) B.int PyProof.Rows.boot_int rfl) pa_nil)))
      (pe_one (pe_not (pe_callB call_isi (by rfl) B.isi PyProof.Rows.boot_isinstance (pa_cons (pv 0) (pa_cons (pe_bltn (v := .ty "bool") (by rfl) B.bool PyProof.Rows.boot_bool rfl) pa_nil))))))), ?_⟩
    refine ⟨_, rfl, _, _, _, _, true, rfl, .ty "int", .base (.int n), kit_ty (by decide +kernel), true, rfl, ?_⟩
    refine iteT ⟨_, rfl, _, _, _, _, false, rfl, .ty "bool", .base (.int n), kit_ty (by decide +kernel), false, rfl, ?_⟩
    exact q
def spIsMark : Sp := fun vs H Q _ => ∃ s : PySem.Str, vs = [.str s] ∧ okM s = true ∧ ∀ H', Same H H' → Q (.bl true) H'
theorem ok_isMark (A : At K mg "is_mark" sIsMark ["thing"]) (B : Blt mg) {tk : Tok} (mL : mg "LETTERS" = some (.str letS tk)) : Dn P w K mg base 1 "is_mark" spIsMark := by
  obtain ⟨f, fd, F, hm, hb⟩ := A.ex
  refine ⟨f, fd, _, F.ok scIsMark (fun vs H Q E h => ?_) (fun cdv A outer s H vs Q E hr h => ?_), hm, F.kp, hb⟩
  · obtain ⟨z, rfl, _⟩ := h
    rfl
  · obtain ⟨z, rfl, hz, q⟩ := h
    unfold okM at hz
    rw [Bool.and_eq_true, Bool.and_eq_true, decide_eq_true_eq, decide_eq_true_eq] at hz
    obtain ⟨z1, z2, z3⟩ := hz
    refine ⟨_, pss_one (ps_ret (pe_and (pe_callB call_isi (by rfl) B.isi PyProof.Rows.boot_isinstance (pa_cons (pv 0) (pa_cons (pe_bltn (v := .ty "str") (by rfl) B.str PyProof.Rows.boot_str rfl) pa_nil)))
      (pe_and (pe_chain op_lt op_le pe_int (pe_callB call_len_str (by rfl) B.len PySem.boot_len (pa_cons (pv 0) pa_nil)) pe_int)
        (pe_one (pe_callB (cr_all rfl) (by rfl) B.all PyProof.Rows.boot_all (pa_cons
          (pe_lc (own := [("sign", 1)]) (g := gName 1) (tt := tYes) (te := tOp rSign (tVar 1) (tC (.str letS))) rfl scIsMark.nd (pi_str (pv 0)) (blkOk_by (own := [("sign", 1)]) (N := ["thing", "sign"]) (sc := defScope sIsMark) (by decide +kernel))
            (fun _ _ _ _ _ => pg_name (i := 1) scIsMark.nd rfl (Or.inl rfl)) (fun _ _ _ _ _ => pts_nil) (fun _ _ _ _ _ => pe_cmpR op_in_sign (pv 1) (pe_glob (v := .str letS) (by rfl) mL ⟨tk, rfl⟩) rfl)) pa_nil)))))), ?_⟩
    refine ⟨_, rfl, _, _, _, _, true, rfl, .ty "str", .base (.str z), kit_ty (by decide +kernel), true, rfl, ?_⟩
    refine iteT ⟨_, rfl, z, rfl, Nat.le_trans z2 (by decide), _, _, rfl, rfl, _, rfl, ?_⟩
    rw [if_pos (decide_eq_true (show (0 : Int) < (z.length : Int) by omega))]
    refine ⟨_, _, rfl, rfl, _, rfl, ?_⟩
    rw [if_pos (decide_eq_true (show (z.length : Int) ≤ 8 by omega))]
    refine ⟨_, rfl, z, rfl, fun D hD => ?_⟩
    refine lc_same (w := walk_str (z := z)) z.cps.toList (fun c => V.str ⟨#[c]⟩) (fun _ => true) (fun _ => .bl true) (by simp) (fun i H3 x H4 hi y => ?_) hD (fun _ _ => True.intro) (Nat.lt_of_le_of_lt (show z.cps.toList.length ≤ 8 by simpa [PySem.Str.length] using z2) (by decide))
      (fun c hc H3 s3 C N k n => ?_) fun H' s' hd => ?_
    · obtain ⟨e, c, hc, ex⟩ := y
      exact ⟨e, c, by rw [Array.getElem?_toList]; exact hc, ex⟩
    · refine ⟨rfl, ?_⟩
      refine ⟨_, rfl, c, letS, rfl, rfl, ?_⟩
      have e : decide (c ∈ letS.cps.toList) = true := List.all_eq_true.mp z3 c hc
      rw [e]
      exact k rfl H3 (Same.refl _)
    · refine ⟨D, z.cps.toList.map fun _ => true, rfl, SqL.of ?_, ?_⟩
      · rw [hd, List.filter_eq_self.mpr (fun _ _ => rfl), List.map_map]
        rfl
      · have e : (z.cps.toList.map fun _ => true).all id = true := by
          rw [List.all_map]
          exact List.all_eq_true.mpr fun _ _ => rfl
        rw [e]
        exact q H' s'
def spIsLot : Sp := fun vs H Q _ => ∃ (a : Addr) (xs : Lot), vs = [.ref a] ∧ LotAt H a xs ∧ Good xs ∧ ∀ H', Same H H' → Q (.bl true) H'
theorem ok_isLot (A : At K mg "is_lot" sIsLot ["thing"]) (B : Blt mg) (G : Dn P w K mg base 1 "is_mark" spIsMark) : Dn P w K mg base 2 "is_lot" spIsLot := by
  obtain ⟨f, fd, F, hm, hb⟩ := A.ex
  refine ⟨f, fd, _, F.ok scIsLot (fun vs H Q E h => ?_) (fun cdv A outer s H vs Q E hr h => ?_), hm, F.kp, hb⟩
  · obtain ⟨a, xs, rfl, _⟩ := h
    rfl
  · obtain ⟨a, xs, rfl, hx, ⟨hs, hg⟩, q⟩ := h
    refine ⟨_, pss_cons (ps_if (PW.pt (pw_or (pt_not (pt_val (pe_callB call_isi (by rfl) B.isi PyProof.Rows.boot_isinstance (pa_cons (pv 0) (pa_cons (pe_bltn (v := .ty "tuple") (by rfl) B.tuple PyProof.Rows.boot_tuple rfl) pa_nil)))))
        (pw_or1 (pt_not (pt_val (pe_callB (cr_all rfl) (by rfl) B.all PyProof.Rows.boot_all (pa_cons
          (pe_lc (own := [("mark", 1)]) (g := gName 1) (tt := tYes) (te := tCall spIsMark [] E0 (tCons (tVar 1) tNil)) rfl scIsLot.nd (pi_tup (pv 0)) (blkOk_by (own := [("mark", 1)]) (N := ["thing", "mark", "at"]) (sc := defScope sIsLot) (by decide +kernel))
            (fun _ _ _ _ _ => pg_name (i := 1) scIsLot.nd rfl (Or.inl rfl)) (fun _ _ _ _ _ => pts_nil) (fun _ _ _ _ _ => pe_d G hr (by rfl) (pa_cons (pv 1) pa_nil))) pa_nil))))))) (pss_one ps_never) pss_nil)
      (pss_one (ps_ret (pe_callB (cr_all rfl) (by rfl) B.all PyProof.Rows.boot_all (pa_cons
        (pe_lc (own := [("at", 2)]) (g := gName 2) (tt := tYes) (te := tOp rLtS (tOp (rIxT K) (tVar 0) (tVar 2)) (tOp (rIxT K) (tVar 0) (tOp (rI0 fun i j => .int (i + j)) (tVar 2) (tC (.int 1))))) rfl scIsLot.nd
          (pi_range1 rfl B.range (pa_cons (pe_op op_sub (pe_callB call_len_seq (by rfl) B.len PySem.boot_len (pa_cons (pv 0) pa_nil)) pe_int) pa_nil)) (blkOk_by (own := [("at", 2)]) (N := ["thing", "mark", "at"]) (sc := defScope sIsLot) (by decide +kernel))
          (fun _ _ _ _ _ => pg_name (i := 2) scIsLot.nd rfl (Or.inl rfl)) (fun _ _ _ _ _ => pts_nil) (fun _ _ _ _ _ => pe_cmpR op_lt_str (pe_ix ix_tup (pv 0) (pv 2) (fun _ _ => rfl)) (pe_ix ix_tup (pv 0) (pe_op op_add (pv 2) pe_int) (fun _ _ => rfl)) rfl)) pa_nil)))), ?_⟩
    refine ⟨_, rfl, _, _, _, _, true, rfl, .ty "tuple", .base (.tup hx.1), kit_ty (by decide +kernel), _, rfl, ?_⟩
    refine iteF ⟨_, rfl, a, rfl, ⟨_, hx.seq⟩, fun D hD => ?_⟩
    refine lc_same (w := walk_tup (K := K) (a := a) (xs := xs.map V.str)) xs V.str (fun _ => true) (fun x => .bl true) (List.length_map _) (yat (List.length_map _)) hD (fun H3 s3 => (hx.same s3).seq) (few hx.2)
      (fun x hx3 H3 s3 C N c n => ?_) fun H1 s1 hd => ?_
    · refine ⟨rfl, ?_⟩
      exact ⟨_, rfl, x, rfl, hg x hx3, fun H4 s4 => c rfl H4 s4⟩
    · refine ⟨D, xs.map fun x => true, rfl, SqL.of ?_, _, rfl, ?_⟩
      · rw [hd, List.filter_eq_self.mpr (fun _ _ => rfl), List.map_map]
        rfl
      have e : (xs.map fun _ => true).all id = true := by
        rw [List.all_map]
        exact List.all_eq_true.mpr fun _ _ => rfl
      rw [e]
      refine iteF ?_
      have hx1 := hx.same s1
      refine ⟨_, rfl, a, _, rfl, .inr hx1.seq, _, _, rfl, rfl, _, rfl, ?_, ?_, fun D2 hD2 => ?_⟩
      · rw [List.length_map]
        omega
      · have h20 := hx.2
        rw [List.length_map]
        omega
      have en : (((xs.map V.str).length : Int) - 1).toNat = xs.length - 1 := by
        rw [List.length_map]
        omega
      rw [en]
      refine lc_same (w := walk_range (lo := 0) (n := xs.length - 1)) (List.range (xs.length - 1)) (fun i => V.int (0 + (i : Int))) (fun _ => true) (fun x => .bl true) List.length_range.symm (fun i H3 x H4 hi y => ⟨y.1, i, by rw [List.getElem?_range hi], y.2⟩) hD2 (fun _ _ => True.intro)
        (by rw [List.length_range]; exact Nat.lt_of_le_of_lt (Nat.sub_le _ _) (few hx.2)) (fun i hi H3 s3 C N c n => ?_) fun H2 s2 hd2 => ?_
      · have hi' := List.mem_range.mp hi
        have l1 : i < xs.length := by omega
        have l2 : i + 1 < xs.length := by omega
        have hx3 := hx1.same s3
        refine ⟨rfl, ?_⟩
        refine ⟨_, rfl, _, rfl, a, _, _, V.str xs[i], rfl, rfl, hx3.seq, ?_, _, rfl, _, rfl, _, _, rfl, rfl, a, _, _, V.str xs[i + 1], rfl, rfl, hx3.seq, ?_, _, _, rfl, rfl, ?_⟩
        · rw [show (0 : Int) + (i : Int) = ((i : Nat) : Int) by omega]
          exact atI_nat (by rw [List.getElem?_map, List.getElem?_eq_getElem l1]; rfl)
        · rw [show (0 : Int) + (i : Int) + 1 = ((i + 1 : Nat) : Int) by omega]
          exact atI_nat (by rw [List.getElem?_map, List.getElem?_eq_getElem l2]; rfl)
        · have lt : slt xs[i] xs[i + 1] := List.pairwise_iff_getElem.mp hs i (i + 1) l1 l2 (Nat.lt_succ_self i)
          rw [decide_eq_true (show xs[i].cps.toList < xs[i + 1].cps.toList from lt)]
          exact c rfl H3 (Same.refl _)
      · refine ⟨D2, (List.range (xs.length - 1)).map fun _ => true, rfl, SqL.of ?_, ?_⟩
        · rw [hd2, List.filter_eq_self.mpr (fun _ _ => rfl), List.map_map]
          rfl
        · have e2 : ((List.range (xs.length - 1)).map fun _ => true).all id = true := by
            rw [List.all_map]
            exact List.all_eq_true.mpr fun _ _ => rfl
          rw [e2]
          exact q H2 (s1.trans s2)
def spIsRule : Sp := fun vs H Q _ => ∃ (r : Addr) (x : Row), vs = [.ref r] ∧ RowAt H r x ∧ Good x.1 ∧ Good x.2 ∧ ∀ H', Same H H' → Q (.bl true) H'
theorem ok_isRule (A : At K mg "is_rule" sIsRule ["thing"]) (B : Blt mg) (G : Dn P w K mg base 2 "is_lot" spIsLot) : Dn P w K mg base 3 "is_rule" spIsRule := by
  obtain ⟨f, fd, F, hm, hb⟩ := A.ex
  refine ⟨f, fd, _, F.ok scIsRule (fun vs H Q E h => ?_) (fun cdv A outer s H vs Q E hr h => ?_), hm, F.kp, hb⟩
  · obtain ⟨r, x, rfl, _⟩ := h
    rfl
  · obtain ⟨r, x, rfl, ⟨a, b, hR, ha, hb'⟩, g1, g2, q⟩ := h
    refine ⟨_, pss_one (ps_ret (pe_and (pe_callB call_isi (by rfl) B.isi PyProof.Rows.boot_isinstance (pa_cons (pv 0) (pa_cons (pe_bltn (v := .ty "tuple") (by rfl) B.tuple PyProof.Rows.boot_tuple rfl) pa_nil)))
      (pe_and (pe_cmpR op_eq (pe_callB call_len_seq (by rfl) B.len PySem.boot_len (pa_cons (pv 0) pa_nil)) pe_int rfl)
        (pe_and (pe_d G hr (by rfl) (pa_cons (pe_ix ix_tup (pv 0) pe_int (fun _ _ => rfl)) pa_nil))
          (pe_one (pe_d G hr (by rfl) (pa_cons (pe_ix ix_tup (pv 0) pe_int (fun _ _ => rfl)) pa_nil))))))), ?_⟩
    refine ⟨_, rfl, _, _, _, _, true, rfl, .ty "tuple", .base (.tup hR), kit_ty (by decide +kernel), true, rfl, ?_⟩
    refine iteT ⟨_, rfl, r, _, rfl, .inr (SqT.of hR), rfl, _, rfl, ?_⟩
    refine iteT ⟨_, rfl, r, _, _, _, rfl, rfl, SqT.of hR, atI_nat (j := 0) rfl, a, x.1, rfl, ha, g1, fun H1 s1 => ⟨_, rfl, ?_⟩⟩
    refine iteT ⟨_, rfl, r, _, _, _, rfl, rfl, SqT.of (s1 _ _ hR), atI_nat (j := 1) rfl, b, x.2, rfl, hb'.same s1, g2, fun H2 s2 => ?_⟩
    exact q H2 (s1.trans s2)
end
end K16
/-! K16Cls: rules.py's helpers, what an instance of Rules looks like, its making. -/
namespace K16
open PySem PySem.Spec PyProof.Rows L2
/-! ### data of lots and rows -/
abbrev lotD (xs : Lot) : PyData := .tuple (xs.map PyData.str)
abbrev rowD (x : Row) : PyData := .tuple [lotD x.1, lotD x.2]
theorem letters_lt : ∀ c ∈ letters, c < 128 := by decide +kernel
theorem okM_str {s : PySem.Str} (h : okM s = true) : PyData.strOk s = true := by
  unfold okM at h
  rw [Bool.and_eq_true, Bool.and_eq_true] at h
  have z := List.all_eq_true.mp h.2.2
  unfold PyData.strOk
  rw [← Array.all_toList]
  refine List.all_eq_true.mpr fun c hc => ?_
  have k := letters_lt c (of_decide_eq_true (z c hc))
  first
    | (exact decide_eq_true (by omega))
    | (simp only [decide_eq_true_eq]; omega)
    | (simp; omega)
theorem canLay_strs : ∀ {xs : Lot}, (∀ x ∈ xs, okM x = true) → PyData.canLayAll0 (xs.map PyData.str) = true
  | [], _ => rfl
  | x :: xs, h => by
    rw [List.map_cons, PyData.canLayAll0, canLay_strs fun y hy => h y (List.mem_cons_of_mem _ hy), PyData.canLay0, okM_str (h x List.mem_cons_self)]
    rfl
theorem lot_shaped {xs : Lot} (h : ∀ x ∈ xs, okM x = true) : SeqAt.shaped (lotD xs) = true := by
  unfold SeqAt.shaped
  rw [Bool.and_eq_true]
  refine ⟨?_, decide_eq_true ?_⟩
  · rw [PyData.canLay0]
    exact canLay_strs h
  · rw [PyData.depth, depth_strs]
    decide
theorem rows_lay : ∀ {l : List Row}, (∀ r ∈ l, (∀ x ∈ r.1, okM x = true) ∧ ∀ x ∈ r.2, okM x = true) → PyData.canLayAll0 (l.map rowD) = true ∧ PyData.depthAll (l.map rowD) ≤ 2
  | [], _ => ⟨rfl, by rw [List.map_nil, PyData.depthAll]; decide⟩
  | r :: l, h => by
    obtain ⟨h1, h2⟩ := rows_lay (l := l) fun y hy => h y (List.mem_cons_of_mem _ hy)
    obtain ⟨k1, k2⟩ := h r List.mem_cons_self
    refine ⟨?_, ?_⟩
    · simp only [List.map_cons, PyData.canLayAll0, PyData.canLay0, canLay_strs k1, canLay_strs k2, h1, Bool.and_self]
    · simp only [List.map_cons, PyData.depthAll, PyData.depth, depth_strs]
      omega
theorem rows_shaped {l : List Row} (h : ∀ r ∈ l, (∀ x ∈ r.1, okM x = true) ∧ ∀ x ∈ r.2, okM x = true) : SeqAt.shaped (.list (l.map rowD)) = true := by
  obtain ⟨h1, h2⟩ := rows_lay h
  unfold SeqAt.shaped
  rw [Bool.and_eq_true]
  refine ⟨?_, decide_eq_true ?_⟩
  · rw [PyData.canLay0]
    exact h1
  · rw [PyData.depth]
    omega
theorem eqv_strs : ∀ xs ys : Lot, PyData.eqvAll (xs.map PyData.str) (ys.map PyData.str) = decide (xs = ys)
  | [], [] => by simp [PyData.eqvAll]
  | [], y :: ys => by simp [PyData.eqvAll]
  | x :: xs, [] => by simp [PyData.eqvAll]
  | x :: xs, y :: ys => by
    rw [List.map_cons, List.map_cons, PyData.eqvAll, PyData.eqv, eqv_strs xs ys]
    by_cases h : x = y
    · subst h
      simp
    · have e : (x == y) = false := beq_eq_false_iff_ne.mpr h
      rw [e, Bool.false_and]
      exact (decide_eq_false fun z => h (List.cons.inj z).1).symm
theorem eqv_lot (xs ys : Lot) : PyData.eqv (lotD xs) (lotD ys) = decide (xs = ys) := by
  rw [PyData.eqv]
  exact eqv_strs xs ys
theorem eqv_rows (l : List Row) : PyData.eqv (.list (l.map rowD)) (.list []) = l.isEmpty := by
  rw [PyData.eqv]
  cases l with
  | nil => simp [PyData.eqvAll]
  | cons r l => simp [PyData.eqvAll]
section
variable {K : PySem.W.Frag} {H : Hp}
theorem dp_strs : ∀ xs : Lot, DpAll K H (xs.map V.str) (xs.map PyData.str)
  | [] => .nil
  | x :: xs => .cons (.str x) (dp_strs xs)
theorem dp_lot {a : Addr} {xs : Lot} (h : LotAt H a xs) : Dp K H (.ref a) (lotD xs) := .tup h.seq (dp_strs xs)
theorem dp_row {r : Addr} {x : Row} (h : RowAt H r x) : Dp K H (.ref r) (rowD x) := by
  obtain ⟨a, b, h1, h2, h3⟩ := h
  exact .tup (SqT.of h1) (.cons (dp_lot h2) (.cons (dp_lot h3) .nil))
/-- the rows' addresses -/
abbrev rrefs (rs : List (Addr × Row)) : List V := rs.map fun r => V.ref r.1
abbrev rowsOf (rs : List (Addr × Row)) : List Row := rs.map Prod.snd
def RowsAt (H : Hp) (rs : List (Addr × Row)) : Prop := ∀ r ∈ rs, RowAt H r.1 r.2
theorem RowsAt.same {H' : Hp} {rs : List (Addr × Row)} (h : RowsAt H rs) (s : Same H H') : RowsAt H' rs := fun r hr => (h r hr).same s
theorem RowsAt.sb {H' : Hp} {b : Addr} {rs : List (Addr × Row)} {l : List V} (h : RowsAt H rs) (hb : H b = some (.lst l)) (s : Sb b H H') : RowsAt H' rs := fun r hr => (h r hr).sb hb s
theorem dp_rows : ∀ {rs : List (Addr × Row)}, RowsAt H rs → DpAll K H (rrefs rs) ((rowsOf rs).map rowD)
  | [], _ => .nil
  | r :: rs, h => .cons (dp_row (h r List.mem_cons_self)) (dp_rows fun x hx => h x (List.mem_cons_of_mem _ hx))
end
/-! ### an instance -/
theorem fld_ne : ¬ (("its_marks" : PySem.Str) = "its_rows") := by decide +kernel
def flds (m l : Addr) : List (PySem.Str × V) := putF "its_rows" (.ref l) (putF "its_marks" (.ref m) [])
theorem flds_marks (m l : Addr) : (flds m l).lookup ("its_marks" : PySem.Str) = some (.ref m) := by
  unfold flds
  rw [lookup_putF, if_neg fld_ne, lookup_putF, if_pos rfl]
theorem flds_rows (m l : Addr) : (flds m l).lookup ("its_rows" : PySem.Str) = some (.ref l) := by
  unfold flds
  rw [lookup_putF, if_pos rfl]
theorem flds_no (m l : Addr) {x : PySem.Str} (h1 : ¬ x = "its_marks") (h2 : ¬ x = "its_rows") : (flds m l).lookup x = none := by
  unfold flds
  rw [lookup_putF, if_neg h2, lookup_putF, if_neg h1]
  rfl
/-- Rules of the marks M with these rows stand at p; their list is no list of the law's -/
def RulesAt (C : Addr) (H : Hp) (p : Addr) (M : Lot) (rs : List (Addr × Row)) : Prop :=
  ∃ dx l m, H p = some (.ins C dx (flds m l)) ∧ LotAt H m M ∧ H l = some (.lst (rrefs rs)) ∧ RowsAt H rs
theorem RulesAt.same {C : Addr} {H H' : Hp} {p : Addr} {M : Lot} {rs : List (Addr × Row)} (h : RulesAt C H p M rs) (s : Same H H') : RulesAt C H' p M rs := by
  obtain ⟨dx, l, m, h1, h2, h3, h4⟩ := h
  exact ⟨dx, l, m, s _ _ h1, h2.same s, s _ _ h3, h4.same s⟩
/-- what all rows are: of marks M, which are good -/
structure Fit (M : Lot) (rs : List (Addr × Row)) : Prop where
  good : Good M
  few : M.length ≤ 20
  rows : ∀ r ∈ rs, RowOk M r.2
  len : rs.length ≤ 100
theorem RowOk.good {M : Lot} {x : Row} (h : RowOk M x) (g : Good M) : Good x.1 ∧ Good x.2 := ⟨Good.of h.1 h.2.2.1 g, Good.of h.2.1 h.2.2.2 g⟩
/-- the class as the top has left it -/
structure Cl (K : PySem.W.Frag) (mg : PySem.Str → Option Value) (C : Addr) : Prop where
  cl : Cls K C
  nM : NoAttr K C "its_marks"
  nR : NoAttr K C "its_rows"
  mgC : mg "Rules" = some (.ref C)
/-- a method as the top has left it -/
structure MAt (K : PySem.W.Frag) (C : Addr) (m qual : PySem.Str) (st : Stmt) (ps : List PySem.Str) : Prop where
  ex : ∃ (f : Addr) (fd : FuncData), Fun K m qual st f fd ∧ Meth K C m f ∧ Binds K fd ps []
/-- a method with its promise -/
structure Md (P : Program) (w : World) (K : PySem.W.Frag) (mg : PySem.Str → Option Value) (base : Heap) (k : Nat) (C : Addr) (m : PySem.Str) (sp : Sp) : Prop where
  ex : ∃ (f : Addr) (fd : FuncData) (ps : List PySem.Str), Meth K C m f ∧ FnOk P w K mg base CX0 k f fd ps sp ∧ Binds K fd ps []
theorem pe_m {X : Cx} {k j : Nat} {C : Addr} {m : PySem.Str} {sp : Sp} {o e : Expr} {es : List Expr} {ta : TE} {t : TA} {apos pos : Pos} {pl : Sem Bool} (c : Md X.prog X.w X.K X.mg X.base k C m sp) (cl : Cls X.K C) (hr : Room j X.A) (ho : PE X o ta) (ha : PA X (e :: es) t) (hk : k ≤ j := by decide)
    (hst : starEach (e :: es) X.env = (false, eval e X.env) :: starEach es X.env := by rfl) (hpl : (backTo pos (starEach es X.env)).any (·.1) = false := by rfl)
    (ht : eval (.Call (.Attribute o m apos) (e :: es) [] pos) X.env = (do
      let ov ← eval o X.env
      standAt apos.atName
      let (f, first) ← holding [ov] (getMethod ov m pl)
      callWith pos f first (backTo pos (starEach (e :: es) X.env)) (backToKw pos (keywordEach [] X.env))) := by rfl) :
    PE X (.Call (.Attribute o m apos) (e :: es) [] pos) (tMeth C m sp [] E0 ta t) := by
  obtain ⟨f, fd, ps, hm, F, b⟩ := c.ex
  exact pe_meth (pl := pl) ho cl hm F (hr.mono hk) b .nil pass0 ha hst hpl ht
theorem pe_m0 {X : Cx} {k j : Nat} {C : Addr} {m : PySem.Str} {sp : Sp} {o : Expr} {ta : TE} {apos pos : Pos} {pl : Sem Bool} (c : Md X.prog X.w X.K X.mg X.base k C m sp) (cl : Cls X.K C) (hr : Room j X.A) (ho : PE X o ta) (hk : k ≤ j := by decide)
    (ht : eval (.Call (.Attribute o m apos) [] [] pos) X.env = (do
      let ov ← eval o X.env
      standAt apos.atName
      let (f, first) ← holding [ov] (getMethod ov m pl)
      callWith pos f first (backTo pos (starEach [] X.env)) (backToKw pos (keywordEach [] X.env))) := by rfl) :
    PE X (.Call (.Attribute o m apos) [] [] pos) (tMeth C m sp [] E0 ta tNil) := by
  obtain ⟨f, fd, ps, hm, F, b⟩ := c.ex
  exact pe_meth0 (pl := pl) ho cl hm F (hr.mono hk) b .nil pass0 ht
section
variable {P : Program} {w : World} {K : PySem.W.Frag} {mg : PySem.Str → Option Value} {base : Heap}
/-! ### breaks, is_rule_of, are_rules_of -/
def spBreaks : Sp := fun vs H Q _ => ∃ (a r : Addr) (xs : Lot) (x : Row), vs = [.ref a, .ref r] ∧ LotAt H a xs ∧ RowAt H r x ∧ ∀ H', Same H H' → Q (.bl (brk xs x)) H'
theorem ok_breaks (A : At K mg "breaks" sBreaks ["lot", "rule"]) (G : Dn P w K mg base 1 "within" spWithin) : Dn P w K mg base 2 "breaks" spBreaks := by
  obtain ⟨f, fd, F, hm, hb⟩ := A.ex
  refine ⟨f, fd, _, F.ok scBreaks (fun vs H Q E h => ?_) (fun cdv A outer s H vs Q E hr h => ?_), hm, F.kp, hb⟩
  · obtain ⟨a, r, xs, x, rfl, _⟩ := h
    rfl
  · obtain ⟨a, r, xs, x, rfl, ha, ⟨p, q', hR, h1, h2⟩, q⟩ := h
    refine ⟨_, pss_one (ps_ret (pe_and (pe_d G hr (by rfl) (pa_cons (pe_ix ix_tup (pv 1) pe_int (fun _ _ => rfl)) (pa_cons (pv 0) pa_nil)))
      (pe_one (pe_not (pe_d G hr (by rfl) (pa_cons (pe_ix ix_tup (pv 1) pe_int (fun _ _ => rfl)) (pa_cons (pv 0) pa_nil))))))), ?_⟩
    refine ⟨_, rfl, r, _, _, _, rfl, rfl, SqT.of hR, atI_nat (j := 0) rfl, _, rfl, p, a, x.1, xs, rfl, h1, ha, fun H1 s1 => ⟨_, rfl, ?_⟩⟩
    refine ite2 (fun e => ?_) (fun e => ?_)
    · refine ⟨_, rfl, r, _, _, _, rfl, rfl, SqT.of (s1 _ _ hR), atI_nat (j := 1) rfl, _, rfl, q', a, x.2, xs, rfl, h2.same s1, ha.same s1, fun H2 s2 => ⟨_, rfl, ?_⟩⟩
      have z := q H2 (s1.trans s2)
      unfold brk at z
      rw [e, Bool.true_and] at z
      exact z
    · have z := q H1 s1
      unfold brk at z
      rw [show wi x.1 xs = false by simpa using e, Bool.false_and] at z
      exact z
def spIsRuleOf : Sp := fun vs H Q _ => ∃ (m r : Addr) (M : Lot) (x : Row), vs = [.ref m, .ref r] ∧ LotAt H m M ∧ RowAt H r x ∧ RowOk M x ∧ Good M ∧ ∀ H', Same H H' → Q (.bl true) H'
theorem ok_isRuleOf (A : At K mg "is_rule_of" sIsRuleOf ["marks", "thing"]) (G : Dn P w K mg base 1 "within" spWithin) (R : Dn P w K mg base 3 "is_rule" spIsRule) : Dn P w K mg base 4 "is_rule_of" spIsRuleOf := by
  obtain ⟨f, fd, F, hm, hb⟩ := A.ex
  refine ⟨f, fd, _, F.ok scIsRuleOf (fun vs H Q E h => ?_) (fun cdv A outer s H vs Q E hr h => ?_), hm, F.kp, hb⟩
  · obtain ⟨m, r, M, x, rfl, _⟩ := h
    rfl
  · obtain ⟨m, r, M, x, rfl, hm', hR, ok, gM, q⟩ := h
    obtain ⟨g1, g2⟩ := RowOk.good ok gM
    obtain ⟨p, q', hr', h1, h2⟩ := id hR
    refine ⟨_, pss_one (ps_ret (pe_and (pe_d R hr (by rfl) (pa_cons (pv 1) pa_nil))
      (pe_and (pe_d G hr (by rfl) (pa_cons (pe_ix ix_tup (pv 1) pe_int (fun _ _ => rfl)) (pa_cons (pv 0) pa_nil)))
        (pe_one (pe_d G hr (by rfl) (pa_cons (pe_ix ix_tup (pv 1) pe_int (fun _ _ => rfl)) (pa_cons (pv 0) pa_nil))))))), ?_⟩
    refine ⟨_, rfl, r, x, rfl, hR, g1, g2, fun H1 s1 => ⟨_, rfl, ?_⟩⟩
    refine iteT ⟨_, rfl, r, _, _, _, rfl, rfl, SqT.of (s1 _ _ hr'), atI_nat (j := 0) rfl, _, rfl, p, m, x.1, M, rfl, h1.same s1, hm'.same s1, fun H2 s2 => ⟨_, rfl, ?_⟩⟩
    rw [wi_iff.mpr ok.2.2.1]
    refine iteT ⟨_, rfl, r, _, _, _, rfl, rfl, SqT.of (s2 _ _ (s1 _ _ hr')), atI_nat (j := 1) rfl, _, rfl, q', m, x.2, M, rfl, h2.same (s1.trans s2), hm'.same (s1.trans s2), fun H3 s3 => ?_⟩
    rw [wi_iff.mpr ok.2.2.2]
    exact q H3 ((s1.trans s2).trans s3)
def spAreRulesOf : Sp := fun vs H Q _ => ∃ (m l : Addr) (M : Lot) (rs : List (Addr × Row)), vs = [.ref m, .ref l] ∧ LotAt H m M ∧ H l = some (.lst (rrefs rs)) ∧ RowsAt H rs ∧ Fit M rs ∧ ∀ H', Same H H' → Q (.bl true) H'
theorem ok_areRulesOf (A : At K mg "are_rules_of" sAreRulesOf ["marks", "thing"]) (B : Blt mg) (G : Dn P w K mg base 4 "is_rule_of" spIsRuleOf) : Dn P w K mg base 5 "are_rules_of" spAreRulesOf := by
  obtain ⟨f, fd, F, hm, hb⟩ := A.ex
  refine ⟨f, fd, _, F.ok scAreRulesOf (fun vs H Q E h => ?_) (fun cdv A outer s H vs Q E hr h => ?_), hm, F.kp, hb⟩
  · obtain ⟨m, l, M, rs, rfl, _⟩ := h
    rfl
  · obtain ⟨m, l, M, rs, rfl, hm', hl, hR, ft, q⟩ := h
    refine ⟨_, pss_one (ps_ret (pe_and (pe_callB call_isiT (by rfl) B.isi PyProof.Rows.boot_isinstance (pa_cons (pv 1) (pa_cons (pe_tup (pa_cons (pe_bltn (v := .ty "list") (by rfl) B.list PyProof.Rows.boot_list rfl)
        (pa_cons (pe_bltn (v := .ty "tuple") (by rfl) B.tuple PyProof.Rows.boot_tuple rfl) pa_nil))) pa_nil)))
      (pe_one (pe_callB (cr_all rfl) (by rfl) B.all PyProof.Rows.boot_all (pa_cons
        (pe_lc (own := [("row", 2)]) (g := gName 2) (tt := tYes) (te := tCall spIsRuleOf [] E0 (tCons (tVar 0) (tCons (tVar 2) tNil))) rfl scAreRulesOf.nd (pi_list (pv 1)) (blkOk_by (own := [("row", 2)]) (N := ["marks", "thing", "row"]) (sc := defScope sAreRulesOf) (by decide +kernel))
          (fun _ _ _ _ _ => pg_name (i := 2) scAreRulesOf.nd rfl (Or.inl rfl)) (fun _ _ _ _ _ => pts_nil) (fun _ _ _ _ _ => pe_d G hr (by rfl) (pa_cons (pv 0) (pa_cons (pv 2) pa_nil)))) pa_nil))))), ?_⟩
    refine ⟨_, rfl, by show 2 ≤ sizeLine; decide, fun t ht => ?_⟩
    have s1 : Same H (upd H t (.tup [.ty "list", .ty "tuple"])) := same_upd ht
    refine ⟨_, t, _, .type "list", _, true, rfl, upd_same, .cons (.ty "list") (.cons (.ty "tuple") .nil), .base (.lst (s1 _ _ hl)), kitAny_cons (b := true) (kit_ty (by decide +kernel)) (fun z => nomatch z) (fun _ => rfl), true, rfl, ?_⟩
    refine iteT ⟨_, rfl, l, rfl, ⟨_, SqL.of (s1 _ _ hl)⟩, fun D hD => ?_⟩
    refine lc_same (w := walk_list (K := K) (a := l) (xs := rrefs rs)) rs (fun r => V.ref r.1) (fun _ => true) (fun _ => .bl true) (List.length_map _) (yat (List.length_map _)) hD (fun H3 s3 => SqL.of (s3 _ _ (s1 _ _ hl))) (Nat.lt_of_le_of_lt ft.len (by decide))
      (fun r hr' H3 s3 C N c n => ?_) fun H' s' hd => ?_
    · refine ⟨rfl, ?_⟩
      have s4 := s1.trans s3
      exact ⟨_, rfl, _, rfl, m, r.1, M, r.2, rfl, hm'.same s4, (hR r hr').same s4, ft.rows r hr', ft.good, fun H4 s5 => c rfl H4 s5⟩
    · refine ⟨D, rs.map fun _ => true, rfl, SqL.of ?_, ?_⟩
      · rw [hd, List.filter_eq_self.mpr (fun _ _ => rfl), List.map_map]
        rfl
      · have e : (rs.map fun _ => true).all id = true := by
          rw [List.all_map]
          exact List.all_eq_true.mpr fun _ _ => rfl
        rw [e]
        exact q H' (s1.trans s')
/-! ### the making -/
def spInit (C : Addr) : Sp := fun vs H Q _ => ∃ (p dx m l : Addr) (M : Lot) (rs : List (Addr × Row)), vs = [.ref p, .ref m, .ref l] ∧ H p = some (.ins C dx []) ∧ LotAt H m M ∧ H l = some (.lst (rrefs rs)) ∧ RowsAt H rs ∧ Fit M rs ∧
  ∀ H', (∀ b o, H b = some o → b ≠ p → H' b = some o) → RulesAt C H' p M rs → Q .non H'
theorem ok_init {C : Addr} (T : Cl K mg C) {f : Addr} {fd : FuncData} (F : Fun K "__init__" "Rules.__init__" sInit f fd) (B : Blt mg) (GL : Dn P w K mg base 2 "is_lot" spIsLot) (GR : Dn P w K mg base 5 "are_rules_of" spAreRulesOf) :
    FnOk P w K mg base CX0 6 f fd ["self", "marks", "rows"] (spInit C) := by
  refine F.ok scInit (fun vs H Q E h => ?_) (fun cdv A outer s H vs Q E hr h => ?_)
  · obtain ⟨p, dx, m, l, M, rs, rfl, _⟩ := h
    rfl
  · obtain ⟨p, dx, m, l, M, rs, rfl, hp, hm', hl, hR, ft, q⟩ := h
    refine ⟨_, pss_cons (ps_if (pt_not (pt_val (pe_d GL hr (by rfl) (pa_cons (pv 1) pa_nil)))) (pss_one ps_never) pss_nil)
      (pss_cons (ps_if (pt_not (pt_val (pe_d GR hr (by rfl) (pa_cons (pv 1) (pa_cons (pv 2) pa_nil))))) (pss_one ps_never) pss_nil)
      (pss_cons (ps_fld (pv 0) (pv 1) rfl) (pss_one (ps_fld (pv 0) (pe_callTy call_list_of (by rfl) B.list PyProof.Rows.boot_list (pa_cons (pv 2) pa_nil)) rfl)))), ?_⟩
    refine ⟨_, rfl, m, M, rfl, hm', ft.good, fun H1 s1 => ⟨_, rfl, ?_⟩⟩
    refine iteF ⟨_, rfl, _, rfl, m, l, M, rs, rfl, hm'.same s1, s1 _ _ hl, hR.same s1, ft, fun H2 s2 => ⟨_, rfl, ?_⟩⟩
    have s3 := s1.trans s2
    refine iteF ⟨_, rfl, _, rfl, p, C, dx, [], rfl, s3 _ _ hp, T.cl, T.nM, by show 0 < 1000; decide, ?_⟩
    have pl : l ≠ p := ne_of hl hp (by intro z; cases z)
    have hl3 : (upd H2 p (.ins C dx (putF "its_marks" (.ref m) []))) l = some (.lst (rrefs rs)) := by
      rw [upd_ne pl]
      exact s3 _ _ hl
    refine ⟨_, rfl, l, _, rfl, .inl (SqL.of hl3), fun l2 hl2 => ?_⟩
    have p2 : p ≠ l2 := fun z => by
      rw [← z, upd_same] at hl2
      cases hl2
    refine ⟨_, rfl, p, C, dx, _, rfl, by rw [upd_ne p2, upd_same], T.cl, T.nR, by show 1 < 1000; decide, ?_⟩
    have up : ∀ b o, H b = some o → b ≠ p → (upd (upd (upd H2 p (.ins C dx (putF "its_marks" (.ref m) []))) l2 (.lst (rrefs rs))) p (.ins C dx (flds m l2))) b = some o := fun b o e n => by
      have e2 : (upd H2 p (.ins C dx (putF "its_marks" (.ref m) []))) b = some o := by
        rw [upd_ne n]
        exact s3 _ _ e
      rw [upd_ne n, upd_ne (ne_of_none e2 hl2)]
      exact e2
    have tp : ∀ {b : Addr} {xs : List V}, H b = some (.tup xs) → (upd (upd (upd H2 p (.ins C dx (putF "its_marks" (.ref m) []))) l2 (.lst (rrefs rs))) p (.ins C dx (flds m l2))) b = some (.tup xs) := fun {b xs} e => up b _ e (ne_of e hp (by intro z; cases z))
    refine q _ up ⟨dx, l2, m, upd_same, ⟨tp hm'.1, hm'.2⟩, ?_, fun r hr' => ?_⟩
    · rw [upd_ne p2.symm, upd_same]
    · obtain ⟨a, b, k1, k2, k3⟩ := hR r hr'
      exact ⟨a, b, tp k1, ⟨tp k2.1, k2.2⟩, ⟨tp k3.1, k3.2⟩⟩
end
end K16
/-! K16Meth: the methods of Rules. -/
namespace K16
open PySem PySem.Spec PyProof.Rows L2
theorem hu64 {A : Around} {k : Nat} (hr : Room k A) : A.units + 64 < cLine := by
  have := hr.un
  omega
section
variable {P : Program} {w : World} {K : PySem.W.Frag} {mg : PySem.Str → Option Value} {base : Heap} {C : Addr}
/-! ### reading -/
def spMarks (C : Addr) : Sp := fun vs H Q _ => ∃ (p dx m l : Addr), vs = [.ref p] ∧ H p = some (.ins C dx (flds m l)) ∧ Q (.ref m) H
theorem ok_marks (T : Cl K mg C) {f : Addr} {fd : FuncData} (F : Fun K "marks" "Rules.marks" sMarks f fd) : FnOk P w K mg base CX0 1 f fd ["self"] (spMarks C) := by
  refine F.ok scMarks (fun vs H Q E h => ?_) (fun cdv A outer s H vs Q E hr h => ?_)
  · obtain ⟨p, dx, m, l, rfl, _⟩ := h
    rfl
  · obtain ⟨p, dx, m, l, rfl, hp, q⟩ := h
    refine ⟨_, pss_one (ps_ret (pe_fld (pv 0) rfl)), ?_⟩
    exact ⟨_, rfl, p, C, dx, _, _, rfl, hp, T.cl, T.nM, flds_marks m l, q⟩
def spRows (C : Addr) : Sp := fun vs H Q _ => ∃ (p : Addr) (M : Lot) (rs : List (Addr × Row)), vs = [.ref p] ∧ RulesAt C H p M rs ∧ ∀ H' l, Same H H' → H' l = some (.lst (rrefs rs)) → Q (.ref l) H'
theorem ok_rows (T : Cl K mg C) (A : MAt K C "rows" "Rules.rows" sRows ["self"]) (B : Blt mg) : Md P w K mg base 1 C "rows" (spRows C) := by
  obtain ⟨f, fd, F, hm, hb⟩ := A.ex
  refine ⟨f, fd, _, hm, F.ok scRows (fun vs H Q E h => ?_) (fun cdv A outer s H vs Q E hr h => ?_), hb⟩
  · obtain ⟨p, M, rs, rfl, _⟩ := h
    rfl
  · obtain ⟨p, M, rs, rfl, ⟨dx, l, m, h1, h2, h3, h4⟩, q⟩ := h
    refine ⟨_, pss_one (ps_ret (pe_callTy call_list_of (by rfl) B.list PyProof.Rows.boot_list (pa_cons (pe_fld (pv 0) rfl) pa_nil))), ?_⟩
    refine ⟨_, rfl, p, C, dx, _, _, rfl, h1, T.cl, T.nR, flds_rows m l, l, _, rfl, .inl (SqL.of h3), fun l2 hl2 => ?_⟩
    exact q _ l2 (same_upd hl2) upd_same
def spLen (C : Addr) : Sp := fun vs H Q _ => ∃ (p : Addr) (M : Lot) (rs : List (Addr × Row)), vs = [.ref p] ∧ RulesAt C H p M rs ∧ Q (.int (rs.length : Nat)) H
theorem ok_len (T : Cl K mg C) (A : MAt K C "__len__" "Rules.__len__" sLen ["self"]) (B : Blt mg) : Md P w K mg base 1 C "__len__" (spLen C) := by
  obtain ⟨f, fd, F, hm, hb⟩ := A.ex
  refine ⟨f, fd, _, hm, F.ok scLen (fun vs H Q E h => ?_) (fun cdv A outer s H vs Q E hr h => ?_), hb⟩
  · obtain ⟨p, M, rs, rfl, _⟩ := h
    rfl
  · obtain ⟨p, M, rs, rfl, ⟨dx, l, m, h1, h2, h3, h4⟩, q⟩ := h
    refine ⟨_, pss_one (ps_ret (pe_callB call_len_seq (by rfl) B.len PySem.boot_len (pa_cons (pe_fld (pv 0) rfl) pa_nil))), ?_⟩
    refine ⟨_, rfl, p, C, dx, _, _, rfl, h1, T.cl, T.nR, flds_rows m l, l, _, rfl, .inl (SqL.of h3), ?_⟩
    rw [List.length_map]
    exact q
def spNeedRow (C : Addr) : Sp := fun vs H Q _ => ∃ (p : Addr) (M : Lot) (rs : List (Addr × Row)) (i : Nat), vs = [.ref p, .int i] ∧ RulesAt C H p M rs ∧ i < rs.length ∧ Q .non H
theorem ok_needRow (T : Cl K mg C) (A : MAt K C "need_row" "Rules.need_row" sNeedRow ["self", "index"]) (B : Blt mg) (G : Dn P w K mg base 1 "is_integer" spIsInteger) : Md P w K mg base 2 C "need_row" (spNeedRow C) := by
  obtain ⟨f, fd, F, hm, hb⟩ := A.ex
  refine ⟨f, fd, _, hm, F.ok scNeedRow (fun vs H Q E h => ?_) (fun cdv A outer s H vs Q E hr h => ?_), hb⟩
  · obtain ⟨p, M, rs, i, rfl, _⟩ := h
    rfl
  · obtain ⟨p, M, rs, i, rfl, ⟨dx, l, m, h1, h2, h3, h4⟩, hi, q⟩ := h
    refine ⟨_, pss_one (ps_if (PW.pt (pw_or (pt_not (pt_val (pe_d G hr (by rfl) (pa_cons (pv 1) pa_nil))))
      (pw_or1 (pt_not (pt_chain op_le op_lt pe_int (pv 1) (pe_callB call_len_seq (by rfl) B.len PySem.boot_len (pa_cons (pe_fld (pv 0) rfl) pa_nil))))))) (pss_one ps_never) pss_nil), ?_⟩
    refine ⟨_, rfl, (i : Int), rfl, _, rfl, ?_⟩
    refine iteF ⟨_, rfl, _, _, rfl, rfl, _, rfl, ?_⟩
    rw [if_pos (decide_eq_true (show (0 : Int) ≤ (i : Int) by omega))]
    refine ⟨_, rfl, p, C, dx, _, _, rfl, h1, T.cl, T.nR, flds_rows m l, l, _, rfl, .inl (SqL.of h3), _, _, rfl, rfl, _, rfl, ?_⟩
    rw [decide_eq_true (show (i : Int) < ((rrefs rs).length : Int) by rw [List.length_map]; omega)]
    exact iteF q
/-! ### broken_by -/
/-- the rows that a lot breaks -/
abbrev brokenOf (xs : Lot) (rs : List (Addr × Row)) : List (Addr × Row) := rs.filter fun r => brk xs r.2
def spBrokenBy (C : Addr) : Sp := fun vs H Q _ => ∃ (p a : Addr) (M : Lot) (rs : List (Addr × Row)) (xs : Lot), vs = [.ref p, .ref a] ∧ RulesAt C H p M rs ∧ LotAt H a xs ∧ rs.length ≤ 100 ∧
  ∀ H' l, Same H H' → H' l = some (.lst (rrefs (brokenOf xs rs))) → Q (.ref l) H'
theorem ok_brokenBy (T : Cl K mg C) (A : MAt K C "broken_by" "Rules.broken_by" sBrokenBy ["self", "lot"]) (G : Dn P w K mg base 2 "breaks" spBreaks) : Md P w K mg base 3 C "broken_by" (spBrokenBy C) := by
  obtain ⟨f, fd, F, hm, hb⟩ := A.ex
  refine ⟨f, fd, _, hm, F.ok scBrokenBy (fun vs H Q E h => ?_) (fun cdv A outer s H vs Q E hr h => ?_), hb⟩
  · obtain ⟨p, a, M, rs, xs, rfl, _⟩ := h
    rfl
  · obtain ⟨p, a, M, rs, xs, rfl, ⟨dx, l, m, h1, h2, h3, h4⟩, ha, hl, q⟩ := h
    refine ⟨_, pss_one (ps_ret (pe_lc (own := [("row", 2)]) (g := gName 2) (tt := tB (tCall spBreaks [] E0 (tCons (tVar 1) (tCons (tVar 2) tNil)))) (te := tVar 2) rfl scBrokenBy.nd (pi_list (pe_fld (pv 0) rfl))
      (blkOk_by (own := [("row", 2)]) (N := ["self", "lot", "row"]) (sc := defScope sBrokenBy) (by decide +kernel)) (fun _ _ _ _ _ => pg_name (i := 2) scBrokenBy.nd rfl (Or.inl rfl))
      (fun _ _ _ _ _ => pts_one (pt_val (pe_d G hr (by rfl) (pa_cons (pv 1) (pa_cons (pv 2) pa_nil))))) (fun _ _ _ _ _ => pv 2))), ?_⟩
    refine ⟨_, rfl, p, C, dx, _, _, rfl, h1, T.cl, T.nR, flds_rows m l, l, rfl, ⟨_, SqL.of h3⟩, fun D hD => ?_⟩
    refine lc_same (w := walk_list (K := K) (a := l) (xs := rrefs rs)) rs (fun r => V.ref r.1) (fun r => brk xs r.2) (fun r => V.ref r.1) (List.length_map _) (yat (List.length_map _)) hD (fun H3 s3 => SqL.of (s3 _ _ h3)) (Nat.lt_of_le_of_lt hl (by decide))
      (fun r hr' H3 s3 C N c n => ?_) fun H' s' hd => ?_
    · refine ⟨rfl, ?_⟩
      refine ⟨_, rfl, _, rfl, a, r.1, xs, r.2, rfl, ha.same s3, (h4 r hr').same s3, fun H4 s4 => ⟨_, rfl, ?_⟩⟩
      exact ite2 (fun e => ⟨_, rfl, c e H4 s4⟩) (fun e => n (by simpa using e) H4 s4)
    · exact q H' D s' hd
/-! ### closing -/
def spClosing (C : Addr) : Sp := fun vs H Q _ => ∃ (p a : Addr) (M : Lot) (rs : List (Addr × Row)) (xs : Lot), vs = [.ref p, .ref a] ∧ RulesAt C H p M rs ∧ Fit M rs ∧ LotAt H a xs ∧ Srt xs ∧ (∀ x ∈ xs, x ∈ M) ∧
  ∀ H' q zs, Same H H' → LotAt H' q zs → IsCl (rowsOf rs) xs zs → Q (.ref q) H'
theorem broken_nil {xs : Lot} {rs : List (Addr × Row)} (h : brokenOf xs rs = []) : Closed (rowsOf rs) xs := fun r hr => by
  obtain ⟨b, hb, rfl⟩ := List.mem_map.mp hr
  have z := List.filter_eq_nil_iff.mp h b hb
  exact brk_false.mp (by simpa using z)
theorem closed_nil {xs : Lot} {rs : List (Addr × Row)} (h : Closed (rowsOf rs) xs) : brokenOf xs rs = [] := List.filter_eq_nil_iff.mpr fun b hb => by
  have z := brk_false.mpr (h b.2 (List.mem_map.mpr ⟨b, hb, rfl⟩))
  rw [z]
  exact Bool.false_ne_true
theorem ok_closing (T : Cl K mg C) (A : MAt K C "closing" "Rules.closing" sClosing ["self", "lot"]) (GB : Md P w K mg base 3 C "broken_by" (spBrokenBy C)) (GJ : Dn P w K mg base 2 "joined" spJoined) : Md P w K mg base 4 C "closing" (spClosing C) := by
  obtain ⟨f, fd, F, hm, hb⟩ := A.ex
  refine ⟨f, fd, _, hm, F.ok scClosing (fun vs H Q E h => ?_) (fun cdv A outer s H vs Q E hr h => ?_), hb⟩
  · obtain ⟨p, a, M, rs, xs, rfl, _⟩ := h
    rfl
  · obtain ⟨p, a, M, rs, xs, rfl, hp, ft, ha, sx, mx, q⟩ := h
    have noB : ∀ m l, (flds m l).lookup ("broken_by" : PySem.Str) = none := fun m l => flds_no m l (by decide +kernel) (by decide +kernel)
    refine ⟨_, pss_cons (ps_set (i := 2) scClosing.nd rfl (.inl rfl) (pe_m GB T.cl hr (pv 0) (pa_cons (pv 1) pa_nil)))
      (pss_cons (ps_while PassesOwn.never (pt_truth (pv 2) (by intro _; rfl))
        (pss_cons (ps_for PassesOwn.never rfl (pi_list (pv 2)) (pg_tup rfl (pgs_cons (pg_name (i := 3) scClosing.nd rfl (Or.inl rfl)) (pgs_cons (pg_name (i := 4) scClosing.nd rfl (Or.inl rfl)) pgs_nil)))
            (pss_one (ps_set (i := 1) scClosing.nd rfl (.inl rfl) (pe_d GJ hr (by rfl) (pa_cons (pv 1) (pa_cons (pv 4) pa_nil))))))
          (pss_one (ps_set (i := 2) scClosing.nd rfl (.inl rfl) (pe_m GB T.cl hr (pv 0) (pa_cons (pv 1) pa_nil))))))
      (pss_one (ps_ret (pv 1)))), ?_⟩
    obtain ⟨dx, l, m, h1, h2, h3, h4⟩ := id hp
    refine ⟨_, rfl, p, dx, _, rfl, h1, noB m l, _, rfl, p, a, M, rs, xs, rfl, hp, ha, ft.len, fun H1 l1 s1 hl1 => ?_⟩
    -- the sweeps
    refine ⟨fun n σ H' => ∃ (a' l' : Addr) (xs' : Lot) (y3 y4 : Option V), σ = [some (.ref p), some (.ref a'), some (.ref l'), y3, y4] ∧ n = M.length - xs'.length ∧ Same H H' ∧ LotAt H' a' xs' ∧ Srt xs' ∧ (∀ x ∈ xs, x ∈ xs') ∧ (∀ x ∈ xs', x ∈ M) ∧
      (∀ ws : Lot, (∀ x ∈ xs, x ∈ ws) → Closed (rowsOf rs) ws → ∀ x ∈ xs', x ∈ ws) ∧ H' l' = some (.lst (rrefs (brokenOf xs' rs))),
      ⟨_, a, l1, xs, none, none, rfl, rfl, s1, ha.same s1, sx, fun _ z => z, mx, fun _ z _ => z, hl1⟩, ?_⟩
    rintro n σ H' ⟨a', l', xs', y3, y4, rfl, rfl, s', ha', sx', sub', mx', least', hl'⟩
    refine ⟨_, rfl, _, .inl ⟨_, SqL.of hl', rfl⟩, ?_⟩
    cases eb : brokenOf xs' rs with
    | nil =>
      refine iteF ⟨_, rfl, ?_⟩
      exact q H' a' xs' s' ha' ⟨sx', sub', broken_nil eb, least'⟩
    | cons r0 rest =>
      rw [eb] at hl'
      have inB : ∀ r ∈ r0 :: rest, r ∈ rs ∧ brk xs' r.2 = true := fun r hr' => by
        rw [← eb] at hr'
        exact List.mem_filter.mp hr'
      refine iteT ⟨fun σ2 H2 => ∃ (a2 l2 : Addr) (zs : Lot) (y3 y4 : Option V), σ2 = [some (.ref p), some (.ref a2), some (.ref l2), y3, y4] ∧ xs'.length < zs.length ∧ zs.length ≤ M.length ∧ Same H H2 ∧ LotAt H2 a2 zs ∧ Srt zs ∧ (∀ x ∈ xs, x ∈ zs) ∧ (∀ x ∈ zs, x ∈ M) ∧
        (∀ ws : Lot, (∀ x ∈ xs, x ∈ ws) → Closed (rowsOf rs) ws → ∀ x ∈ zs, x ∈ ws) ∧ H2 l2 = some (.lst (rrefs (brokenOf zs rs))), fun σ2 H2 hN => ?_, ?_⟩
      · obtain ⟨a2, l2, zs, z3, z4, e, lt, le, r1, r2, r3, r4, r5, r6, r7⟩ := hN
        exact ⟨M.length - zs.length, by omega, a2, l2, zs, z3, z4, e, rfl, r1, r2, r3, r4, r5, r6, r7⟩
      -- one sweep
      refine ⟨_, rfl, l', rfl, ⟨_, SqL.of hl'⟩, for_list (K := K) (a := l') (xs := rrefs (r0 :: rest)) (fun i σ2 H2 => ∃ (a2 : Addr) (zs : Lot) (y3 y4 : Option V), σ2 = [some (.ref p), some (.ref a2), some (.ref l'), y3, y4] ∧ Same H' H2 ∧ LotAt H2 a2 zs ∧ Srt zs ∧
          (∀ x ∈ xs', x ∈ zs) ∧ (∀ x ∈ zs, x ∈ M) ∧ (∀ ws : Lot, (∀ x ∈ xs, x ∈ ws) → Closed (rowsOf rs) ws → ∀ x ∈ zs, x ∈ ws) ∧ ∀ r ∈ (r0 :: rest).take i, ∀ x ∈ r.2.2, x ∈ zs)
        ⟨a', xs', y3, y4, rfl, Same.refl _, ha', sx', fun _ z => z, mx', least', fun r hr' => absurd hr' List.not_mem_nil⟩ (fun i σ2 H2 _ ⟨_, _, _, _, _, s2, _⟩ => SqL.of (s2 _ _ hl')) ?_ ?_⟩
      · rintro i x σ2 H2 hi ⟨a2, zs, z3, z4, rfl, s2, ha2, sz, subz, mz, leastz, behz⟩
        rw [List.getElem?_map] at hi
        obtain ⟨r, hr1, hr2⟩ := Option.map_eq_some_iff.mp hi
        subst hr2
        have mem : r ∈ r0 :: rest := List.mem_of_getElem? hr1
        obtain ⟨rin, rbrk⟩ := inB r mem
        obtain ⟨pa, pb, k1, k2, k3⟩ := (h4 r rin).same (s'.trans s2)
        have rok := ft.rows r rin
        refine ⟨r.1, _, rfl, SqT.of k1, rfl, _, _, rfl, _, _, rfl, rfl, ?_⟩
        refine ⟨_, rfl, _, rfl, a2, pb, zs, r.2.2, M, rfl, ha2, k3, ft.few, mz, rok.2.2.2, fun H3 q3 us s3 hq3 su hu => ?_⟩
        refine ⟨q3, us, _, _, rfl, s2.trans s3, hq3, su, fun y hy => (hu y).mpr (.inl (subz y hy)), fun y hy => ((hu y).mp hy).elim (mz y) (rok.2.2.2 y), fun ws h5 h6 y hy => ?_, fun r' hr' y hy => ?_⟩
        · rcases (hu y).mp hy with z | z
          · exact leastz ws h5 h6 y z
          · exact h6 r.2 (List.mem_map.mpr ⟨r, rin, rfl⟩) (fun t ht => least' ws h5 h6 t (brk_ahead rbrk t ht)) y z
        · rw [List.take_add_one, hr1] at hr'
          rcases List.mem_append.mp hr' with z | z
          · exact (hu y).mpr (.inl (behz r' z y hy))
          · have e : r' = r := by simpa using z
            subst e
            exact (hu y).mpr (.inr hy)
      · rintro σ2 H2 ⟨a2, zs, z3, z4, rfl, s2, ha2, sz, subz, mz, leastz, behz⟩
        rw [List.length_map, List.take_length] at behz
        obtain ⟨y, hy, ny⟩ := brk_new (inB r0 List.mem_cons_self).2
        have lt : xs'.length < zs.length := grow_len sx' subz (behz r0 List.mem_cons_self y hy) ny
        have s3 := s'.trans s2
        obtain ⟨dx2, l2, m2, g1, g2, g3, g4⟩ := id (hp.same s3)
        refine ⟨_, rfl, p, dx2, _, rfl, g1, noB m2 l2, _, rfl, p, a2, M, rs, zs, rfl, hp.same s3, ha2, ft.len, fun H4 l4 s4 hl4 => ?_⟩
        exact ⟨a2, l4, zs, _, _, rfl, lt, nodup_le sz.nodup mz, s3.trans s4, ha2.same s4, sz, fun x hx => subz x (sub' x hx), mz, leastz, hl4⟩
theorem ok_call (T : Cl K mg C) (A : MAt K C "__call__" "Rules.__call__" sCall ["self", "lot"]) (G : Md P w K mg base 4 C "closing" (spClosing C)) : Md P w K mg base 5 C "__call__" (spClosing C) := by
  obtain ⟨f, fd, F, hm, hb⟩ := A.ex
  refine ⟨f, fd, _, hm, F.ok scCall (fun vs H Q E h => ?_) (fun cdv A outer s H vs Q E hr h => ?_), hb⟩
  · obtain ⟨p, a, M, rs, xs, rfl, _⟩ := h
    rfl
  · obtain ⟨p, a, M, rs, xs, rfl, hp, r⟩ := h
    obtain ⟨dx, l, m, h1, _⟩ := id hp
    refine ⟨_, pss_one (ps_ret (pe_m G T.cl hr (pv 0) (pa_cons (pv 1) pa_nil))), ?_⟩
    exact ⟨_, rfl, p, dx, _, rfl, h1, flds_no m l (by decide +kernel) (by decide +kernel), _, rfl, p, a, M, rs, xs, rfl, hp, r⟩
end
end K16
/-! K16Meth2: __contains__, __add__, without, follows_from. -/
namespace K16
open PySem PySem.Spec PyProof.Rows L2
/-- the class can be made -/
structure Mi (P : Program) (w : World) (K : PySem.W.Frag) (mg : PySem.Str → Option Value) (base : Heap) (k : Nat) (C : Addr) (sp : Sp) : Prop where
  ex : ∃ (f : Addr) (fd : FuncData) (ps : List PySem.Str), Mk K C f ∧ FnOk P w K mg base CX0 k f fd ps sp ∧ Binds K fd ps []
theorem pe_n {X : Cx} {k j : Nat} {C : Addr} {x : PySem.Str} {sp : Sp} {e : Expr} {es : List Expr} {t : TA} {p pos : Pos} (c : Mi X.prog X.w X.K X.mg X.base k C sp) (hr : Room j X.A) (hg : Gl X x) (hm : X.mg x = some (.ref C)) (ha : PA X (e :: es) t) (hk : k + 1 ≤ j := by decide)
    (hdb : (x == ("__debug__" : PySem.Str)) = false := by decide) (he : starEach (e :: es) X.env = (false, eval e X.env) :: starEach es X.env := by rfl) (hpl : (backTo pos (starEach es X.env)).any (·.1) = false := by rfl) :
    PE X (.Call (.Name x p) (e :: es) [] pos) (tMake C sp [] E0 t) := by
  obtain ⟨f, fd, ps, M, F, b⟩ := c.ex
  exact pe_make M F (hr.mono hk) hg hm b .nil pass0 ha hdb he hpl
/-- a new instance leaves all that was tracked -/
theorem made_same {H H1 : Hp} {x dx C : Addr} (nx : H x = none) (nd : H dx = none) (k : ∀ b o, (upd (upd H dx (.own x)) x (.ins C dx [])) b = some o → b ≠ x → H1 b = some o) : Same H H1 := fun b o e =>
  k b o (by rw [upd_ne (ne_of_none e nx), upd_ne (ne_of_none e nd)]; exact e) (ne_of_none e nx)
theorem made_keeps {H : Hp} {x dx C : Addr} (nx : H x = none) (nd : H dx = none) : Same H (upd (upd H dx (.own x)) x (.ins C dx [])) := fun b o e => by
  rw [upd_ne (ne_of_none e nx), upd_ne (ne_of_none e nd)]
  exact e
section
variable {P : Program} {w : World} {K : PySem.W.Frag} {mg : PySem.Str → Option Value} {base : Heap} {C : Addr}
theorem rows_good {M : Lot} {rs : List (Addr × Row)} (ft : Fit M rs) {xs : Lot} : ∀ r ∈ rowsOf (brokenOf xs rs), (∀ x ∈ r.1, okM x = true) ∧ ∀ x ∈ r.2, okM x = true := fun r hr => by
  obtain ⟨b, hb, rfl⟩ := List.mem_map.mp hr
  have z := RowOk.good (ft.rows b (List.mem_filter.mp hb).1) ft.good
  exact ⟨z.1.2, z.2.2⟩
def spContains (C : Addr) : Sp := fun vs H Q _ => ∃ (p a : Addr) (M : Lot) (rs : List (Addr × Row)) (xs : Lot), vs = [.ref p, .ref a] ∧ RulesAt C H p M rs ∧ Fit M rs ∧ LotAt H a xs ∧ Good xs ∧ (∀ x ∈ xs, x ∈ M) ∧
  ∀ H' b, Same H H' → (b = true ↔ Closed (rowsOf rs) xs) → Q (.bl b) H'
theorem ok_contains (T : Cl K mg C) (A : MAt K C "__contains__" "Rules.__contains__" sContains ["self", "thing"]) (GL : Dn P w K mg base 2 "is_lot" spIsLot) (GW : Dn P w K mg base 1 "within" spWithin) (GB : Md P w K mg base 3 C "broken_by" (spBrokenBy C)) :
    Md P w K mg base 4 C "__contains__" (spContains C) := by
  obtain ⟨f, fd, F, hm, hb⟩ := A.ex
  refine ⟨f, fd, _, hm, F.ok scContains (fun vs H Q E h => ?_) (fun cdv A outer s H vs Q E hr h => ?_), hb⟩
  · obtain ⟨p, a, M, rs, xs, rfl, _⟩ := h
    rfl
  · obtain ⟨p, a, M, rs, xs, rfl, hp, ft, ha, gx, mx, q⟩ := h
    refine ⟨_, pss_one (ps_ret (pe_and (pe_d GL hr (by rfl) (pa_cons (pv 1) pa_nil)) (pe_and (pe_d GW hr (by rfl) (pa_cons (pv 1) (pa_cons (pe_fld (pv 0) rfl) pa_nil)))
      (pe_one (pe_cmpR (op_eqD (hu64 hr)) (pe_m GB T.cl hr (pv 0) (pa_cons (pv 1) pa_nil)) (pe_lst pa_nil) rfl))))), ?_⟩
    refine ⟨_, rfl, a, xs, rfl, ha, gx, fun H1 s1 => ⟨_, rfl, ?_⟩⟩
    obtain ⟨dx, l, m, h1, h2, h3, h4⟩ := hp.same s1
    refine iteT ⟨_, rfl, _, rfl, p, C, dx, _, _, rfl, h1, T.cl, T.nM, flds_marks m l, a, m, xs, M, rfl, ha.same s1, h2, fun H2 s2 => ⟨_, rfl, ?_⟩⟩
    rw [wi_iff.mpr mx]
    have s3 := s1.trans s2
    refine iteT ⟨_, rfl, p, dx, _, rfl, s2 _ _ h1, flds_no m l (by decide +kernel) (by decide +kernel), _, rfl, p, a, M, rs, xs, rfl, hp.same s3, ha.same s3, ft.len, fun H4 l4 s4 hl4 => ?_⟩
    refine ⟨Nat.zero_le _, fun e he => ?_⟩
    have s5 : Same H4 (upd H4 e (.lst [])) := same_upd he
    have hR : RowsAt (upd H4 e (.lst [])) (brokenOf xs rs) := fun r hr' => ((h4 r (List.mem_filter.mp hr').1).same s2 |>.same s4).same s5
    refine ⟨.list ((rowsOf (brokenOf xs rs)).map rowD), .list [], .lst (SqL.of (s5 _ _ hl4)) (dp_rows hR), .lst (SqL.of upd_same) .nil, rows_shaped (rows_good ft), by decide +kernel, ?_⟩
    rw [eqv_rows]
    refine q _ _ ((s3.trans s4).trans s5) ⟨fun z => broken_nil ?_, fun z => ?_⟩
    · exact List.map_eq_nil_iff.mp (List.isEmpty_iff.mp z)
    · rw [closed_nil z]
      rfl
/-! ### new Rules -/
theorem Fit.add {M : Lot} {rs : List (Addr × Row)} {r : Addr} {x : Row} (ft : Fit M rs) (ok : RowOk M x) (h : rs.length < 100) : Fit M (rs ++ [(r, x)]) := ⟨ft.good, ft.few, fun y hy => by
  rcases List.mem_append.mp hy with z | z
  · exact ft.rows y z
  · rw [List.mem_singleton.mp z]
    exact ok, by rw [List.length_append, List.length_singleton]; exact h⟩
theorem Fit.sub {M : Lot} {rs rs' : List (Addr × Row)} (ft : Fit M rs) (h : rs'.Sublist rs) : Fit M rs' := ⟨ft.good, ft.few, fun y hy => ft.rows y (h.subset hy), Nat.le_trans h.length_le ft.len⟩
def spAdd (C : Addr) : Sp := fun vs H Q _ => ∃ (p r : Addr) (M : Lot) (rs : List (Addr × Row)) (x : Row), vs = [.ref p, .ref r] ∧ RulesAt C H p M rs ∧ Fit M rs ∧ rs.length < 100 ∧ RowAt H r x ∧ RowOk M x ∧
  ∀ H' q, Same H H' → RulesAt C H' q M (rs ++ [(r, x)]) → Q (.ref q) H'
theorem ok_add (T : Cl K mg C) (A : MAt K C "__add__" "Rules.__add__" sAdd ["self", "rule"]) (G : Dn P w K mg base 4 "is_rule_of" spIsRuleOf) (N : Mi P w K mg base 6 C (spInit C)) : Md P w K mg base 8 C "__add__" (spAdd C) := by
  obtain ⟨f, fd, F, hm, hb⟩ := A.ex
  refine ⟨f, fd, _, hm, F.ok scAdd (fun vs H Q E h => ?_) (fun cdv A outer s H vs Q E hr h => ?_), hb⟩
  · obtain ⟨p, r, M, rs, x, rfl, _⟩ := h
    rfl
  · obtain ⟨p, r, M, rs, x, rfl, ⟨dx, l, m, h1, h2, h3, h4⟩, ft, hl, hR, ok, q⟩ := h
    refine ⟨_, pss_cons (ps_if (pt_not (pt_val (pe_d G hr (by rfl) (pa_cons (pe_fld (pv 0) rfl) (pa_cons (pv 1) pa_nil))))) (pss_one ps_never) pss_nil)
      (pss_one (ps_ret (pe_n N hr (by rfl) T.mgC (pa_cons (pe_fld (pv 0) rfl) (pa_cons (pe_lst (StX.pa_star (pe_fld (pv 0) rfl) (pa_cons (pv 1) pa_nil))) pa_nil))))), ?_⟩
    refine ⟨_, rfl, p, C, dx, _, _, rfl, h1, T.cl, T.nM, flds_marks m l, _, rfl, m, r, M, x, rfl, h2, hR, ok, ft.good, fun H1 s1 => ⟨_, rfl, ?_⟩⟩
    refine iteF ⟨_, rfl, p, C, dx, _, _, rfl, s1 _ _ h1, T.cl, T.nM, flds_marks m l, _, rfl, p, C, dx, _, _, rfl, s1 _ _ h1, T.cl, T.nR, flds_rows m l, l, _, rfl, .inr (SqL.of (s1 _ _ h3)), _, rfl, ?_, fun l2 hl2 => ?_⟩
    · show (rrefs rs ++ [V.ref r]).length ≤ sizeLine
      rw [List.length_append, List.length_map]
      exact Nat.le_trans (Nat.add_le_add_right (Nat.le_of_lt hl) 1) (by decide)
    have s2 : Same H1 (upd H1 l2 (.lst (rrefs rs ++ [.ref r]))) := same_upd hl2
    have s3 := s1.trans s2
    intro y dy ny ndy ne
    have s4 := made_keeps (C := C) ny ndy
    have s5 := s3.trans s4
    have ft2 := ft.add (r := r) ok hl
    refine ⟨y, dy, m, l2, M, rs ++ [(r, x)], rfl, upd_same, h2.same s5, ?_, fun b hb' => ?_, ft2, fun H' kp R => ⟨rfl, q H' y (s3.trans (made_same ny ndy kp)) R⟩⟩
    · refine s4 _ _ ?_
      rw [upd_same]
      show some (HO.lst (rrefs rs ++ [.ref r])) = some (HO.lst ((rs ++ [(r, x)]).map fun r => V.ref r.1))
      rw [List.map_append]
      rfl
    · rcases List.mem_append.mp hb' with z | z
      · exact (h4 b z).same s5
      · rw [List.mem_singleton.mp z]
        exact hR.same s5
theorem cut_to {xs : List V} {i : Nat} (h : i ≤ xs.length) : cutV xs none (some (i : Int)) = xs.take i := by
  unfold cutV
  rw [HT.sIx_none, HT.sIx_nat, Nat.min_eq_left h, List.drop_zero, Nat.sub_zero]
theorem cut_from {xs : List V} {i : Nat} (h : i ≤ xs.length) : cutV xs (some (i : Int)) none = xs.drop i := by
  unfold cutV
  rw [HT.sIx_none, HT.sIx_nat, Nat.min_eq_left h]
  exact List.take_of_length_le (by rw [List.length_drop]; exact Nat.le_refl _)
def spWithout (C : Addr) : Sp := fun vs H Q _ => ∃ (p : Addr) (M : Lot) (rs : List (Addr × Row)) (i : Nat), vs = [.ref p, .int i] ∧ RulesAt C H p M rs ∧ Fit M rs ∧ i < rs.length ∧
  ∀ H' q, Same H H' → RulesAt C H' q M (rs.take i ++ rs.drop (i + 1)) → Q (.ref q) H'
theorem cut_sub {α : Type} (rs : List α) (i : Nat) : (rs.take i ++ rs.drop (i + 1)).Sublist rs := by
  have z : (rs.take i ++ rs.drop (i + 1)).Sublist (rs.take i ++ rs.drop i) := List.Sublist.append (List.Sublist.refl _) (by
    rw [← List.drop_drop]
    exact List.drop_sublist _ _)
  rw [List.take_append_drop] at z
  exact z
theorem ok_without (T : Cl K mg C) (A : MAt K C "without" "Rules.without" sWithout ["self", "index"]) (G : Md P w K mg base 2 C "need_row" (spNeedRow C)) (N : Mi P w K mg base 6 C (spInit C)) : Md P w K mg base 8 C "without" (spWithout C) := by
  obtain ⟨f, fd, F, hm, hb⟩ := A.ex
  refine ⟨f, fd, _, hm, F.ok scWithout (fun vs H Q E h => ?_) (fun cdv A outer s H vs Q E hr h => ?_), hb⟩
  · obtain ⟨p, M, rs, i, rfl, _⟩ := h
    rfl
  · obtain ⟨p, M, rs, i, rfl, hp, ft, hi, q⟩ := h
    obtain ⟨dx, l, m, h1, h2, h3, h4⟩ := id hp
    refine ⟨_, pss_cons (ps_expr (pe_m G T.cl hr (pv 0) (pa_cons (pv 1) pa_nil)))
      (pss_one (ps_ret (pe_n N hr (by rfl) T.mgC (pa_cons (pe_fld (pv 0) rfl) (pa_cons (pe_op op_cat (pe_slice sl_list (pe_fld (pv 0) rfl) po_none (po_some (pv 1)))
        (pe_slice sl_list (pe_fld (pv 0) rfl) (po_some (pe_op op_add (pv 1) pe_int)) po_none)) pa_nil))))), ?_⟩
    refine ⟨_, rfl, p, dx, _, rfl, h1, flds_no m l (by decide +kernel) (by decide +kernel), _, rfl, p, M, rs, i, rfl, hp, hi, ?_⟩
    have li : i ≤ (rrefs rs).length := by
      rw [List.length_map]
      omega
    have li1 : i + 1 ≤ (rrefs rs).length := by
      rw [List.length_map]
      exact hi
    refine ⟨_, rfl, p, C, dx, _, _, rfl, h1, T.cl, T.nM, flds_marks m l, _, rfl, p, C, dx, _, _, rfl, h1, T.cl, T.nR, flds_rows m l, _, rfl, i, rfl, l, _, rfl, SqL.of h3, fun a ha => ?_⟩
    have s1 : Same H (upd H a (.lst (cutV (rrefs rs) none (some (i : Int))))) := same_upd ha
    refine ⟨_, rfl, p, C, dx, _, _, rfl, s1 _ _ h1, T.cl, T.nR, flds_rows m l, _, rfl, _, _, rfl, rfl, _, rfl, ?_⟩
    refine ⟨l, _, rfl, SqL.of (s1 _ _ h3), fun b hb' => ?_⟩
    have s2 : Same (upd H a (.lst (cutV (rrefs rs) none (some (i : Int))))) _ := same_upd hb' (o := .lst (cutV (rrefs rs) (some ((i : Int) + 1)) none))
    refine ⟨a, b, _, _, rfl, rfl, s2 _ _ upd_same, upd_same, ?_, fun l2 hl2 => ?_⟩
    · have z1 := cutV_length (rrefs rs) none (some (i : Int))
      have z2 := cutV_length (rrefs rs) (some ((i : Int) + 1)) none
      have z3 := ft.len
      rw [List.length_map] at z1 z2
      exact Nat.le_trans (show _ ≤ 200 by omega) (by decide)
    have s3 := (s1.trans s2).trans (same_upd hl2 (o := .lst (cutV (rrefs rs) none (some (i : Int)) ++ cutV (rrefs rs) (some ((i : Int) + 1)) none)))
    intro y dy ny ndy ne
    have s4 := made_keeps (C := C) ny ndy
    have s5 := s3.trans s4
    have sub := cut_sub rs i
    refine ⟨y, dy, m, l2, M, rs.take i ++ rs.drop (i + 1), rfl, upd_same, h2.same s5, ?_, fun b hb2 => (h4 b (sub.subset hb2)).same s5, ft.sub sub, fun H' kp R => ⟨rfl, q H' y (s3.trans (made_same ny ndy kp)) R⟩⟩
    refine s4 _ _ ?_
    have e1 := cut_to li
    have e2 := cut_from li1
    rw [show ((i + 1 : Nat) : Int) = (i : Int) + 1 by omega] at e2
    rw [upd_same, e1, e2]
    simp only [rrefs, List.map_append, List.map_take, List.map_drop]
/-! ### follows_from -/
/-- a row follows from rows -/
noncomputable def folB (rows : List Row) (r : Row) : Bool := @decide (∀ z, IsCl rows r.1 z → ∀ x ∈ r.2, x ∈ z) (Classical.propDecidable _)
theorem folB_iff {rows : List Row} {r : Row} : folB rows r = true ↔ ∀ z, IsCl rows r.1 z → ∀ x ∈ r.2, x ∈ z := by
  unfold folB
  exact @decide_eq_true_iff _ (Classical.propDecidable _)
theorem folB_eq {rows : List Row} {r : Row} {z : Lot} (h : IsCl rows r.1 z) : folB rows r = wi r.2 z := by
  rw [Bool.eq_iff_iff, folB_iff, wi_iff]
  constructor
  · exact fun k => k z h
  · intro k z' h'
    rw [h'.unique h]
    exact k
theorem folB_all {rows rows' : List Row} : (∀ r ∈ rows, folB rows' r = true) ↔ Fol rows rows' := by
  unfold Fol
  exact ⟨fun h r hr => folB_iff.mp (h r hr), fun h r hr => folB_iff.mpr (h r hr)⟩
def spFollows (C : Addr) : Sp := fun vs H Q _ => ∃ (p q : Addr) (M : Lot) (rs rs' : List (Addr × Row)), vs = [.ref p, .ref q] ∧ RulesAt C H p M rs ∧ Fit M rs ∧ RulesAt C H q M rs' ∧ Fit M rs' ∧
  ∀ H' b, Same H H' → (b = true ↔ Fol (rowsOf rs) (rowsOf rs')) → Q (.bl b) H'
theorem ok_follows (T : Cl K mg C) (A : MAt K C "follows_from" "Rules.follows_from" sFollows ["self", "other"]) (B : Blt mg) (GW : Dn P w K mg base 1 "within" spWithin) (GC : Md P w K mg base 4 C "closing" (spClosing C)) {g pr : Addr} {fdg : FuncData}
    (PR : PropOf K C "marks" pr g) (FG : FnOk P w K mg base CX0 1 g fdg ["self"] (spMarks C)) (bg : Binds K fdg ["self"] []) : Md P w K mg base 5 C "follows_from" (spFollows C) := by
  obtain ⟨f, fd, F, hm, hb⟩ := A.ex
  refine ⟨f, fd, _, hm, F.ok scFollows (fun vs H Q E h => ?_) (fun cdv A outer s H vs Q E hr h => ?_), hb⟩
  · obtain ⟨p, q, M, rs, rs', rfl, _⟩ := h
    rfl
  · obtain ⟨p, q, M, rs, rs', rfl, hp, ft, hq, ft', k⟩ := h
    have hr2 : Room 2 (A.deeper (envOfC "Rules.follows_from" (defScope sFollows) s.heap.objs.size f cdv)) := hr.mono (by decide)
    refine ⟨_, pss_cons (ps_if (pt_not (pt_val (pe_d GW hr (by rfl) (pa_cons (pe_fld (pv 0) rfl) (pa_cons (pe_prop (pv 1) T.cl PR FG hr2 bg .nil pass0 rfl) pa_nil))))) (pss_one ps_never) pss_nil)
      (pss_one (ps_ret (pe_callB (cr_all rfl) (by rfl) B.all PyProof.Rows.boot_all (pa_cons
        (pe_lc (own := [("ahead", 2), ("behind", 3)]) (g := gTup K 2 (gCons (gName 2) (gCons (gName 3) gNil))) (tt := tYes)
          (te := tCall spWithin [] E0 (tCons (tVar 3) (tCons (tMeth C "closing" (spClosing C) [] E0 (tVar 1) (tCons (tVar 2) tNil)) tNil))) rfl scFollows.nd (pi_list (pe_fld (pv 0) rfl))
          (blkOk_by (own := [("ahead", 2), ("behind", 3)]) (N := ["self", "other", "ahead", "behind"]) (sc := defScope sFollows) (by decide +kernel))
          (fun _ _ _ _ _ => pg_tup rfl (pgs_cons (pg_name (i := 2) scFollows.nd rfl (Or.inl rfl)) (pgs_cons (pg_name (i := 3) scFollows.nd rfl (Or.inl rfl)) pgs_nil))) (fun _ _ _ _ _ => pts_nil)
          (fun _ _ _ _ _ => pe_d GW hr (by rfl) (pa_cons (pv 3) (pa_cons (pe_m GC T.cl hr (pv 1) (pa_cons (pv 2) pa_nil)) pa_nil)))) pa_nil)))), ?_⟩
    obtain ⟨dx, l, m, h1, h2, h3, h4⟩ := id hp
    obtain ⟨dx', l', m', k1, k2, k3, k4⟩ := id hq
    refine ⟨_, rfl, p, C, dx, _, _, rfl, h1, T.cl, T.nM, flds_marks m l, _, rfl, q, dx', _, rfl, k1, q, dx', m', l', rfl, k1, ?_⟩
    refine ⟨m, m', M, M, rfl, h2, k2, fun H1 s1 => ⟨_, rfl, ?_⟩⟩
    rw [wi_iff.mpr fun _ z => z]
    refine iteF ⟨_, rfl, p, C, dx, _, _, rfl, s1 _ _ h1, T.cl, T.nR, flds_rows m l, l, rfl, ⟨_, SqL.of (s1 _ _ h3)⟩, fun D hD => ?_⟩
    refine lc_same (w := walk_list (K := K) (a := l) (xs := rrefs rs)) rs (fun r => V.ref r.1) (fun _ => true) (fun r => .bl (folB (rowsOf rs') r.2)) (List.length_map _) (yat (List.length_map _)) hD (fun H3 s3 => SqL.of (s3 _ _ (s1 _ _ h3))) (Nat.lt_of_le_of_lt ft.len (by decide))
      (fun r hr' H3 s3 C' N c n => ?_) fun H' s' hd => ?_
    · have s4 := s1.trans s3
      obtain ⟨a, b, j1, j2, j3⟩ := (h4 r hr').same s4
      have rok := ft.rows r hr'
      refine ⟨r.1, _, rfl, SqT.of j1, rfl, _, _, rfl, _, _, rfl, rfl, rfl, ?_⟩
      refine ⟨_, rfl, _, rfl, q, dx', _, rfl, s4 _ _ k1, flds_no m' l' (by decide +kernel) (by decide +kernel), _, rfl, q, _, M, rs', r.2.1, rfl, hq.same s4, ft', j2, rok.1, rok.2.2.1, fun H4 z zs s5 hz cl => ?_⟩
      refine ⟨_, z, r.2.2, zs, rfl, j3.same s5, hz, fun H5 s6 => ?_⟩
      have e := c rfl H5 (s5.trans s6)
      rw [folB_eq cl] at e
      exact e
    · refine ⟨D, rs.map fun r => folB (rowsOf rs') r.2, rfl, SqL.of ?_, ?_⟩
      · rw [hd, List.filter_eq_self.mpr (fun _ _ => rfl), List.map_map]
        rfl
      · refine k H' _ (s1.trans s') ?_
        rw [List.all_map, List.all_eq_true]
        constructor
        · intro z
          refine folB_all.mp fun r hr' => ?_
          obtain ⟨b, hb', e⟩ := List.mem_map.mp hr'
          subst e
          exact z b hb'
        · intro z r hr'
          exact folB_all.mpr z r.2 (List.mem_map.mpr ⟨r, hr', rfl⟩)
end
end K16
/-! K16Bag: the law's drawing: the bag and one draw. -/
namespace K16
open PySem PySem.Spec PyProof.Rows L2
/-- the bag: four cells, the last one the list of the script's numbers -/
def BagAt (c : Addr) (H : Hp) (b : Addr) : Prop := ∃ (x y z : Int) (ns : List Int), H b = some (.lst [.int x, .int y, .int z, .ref c]) ∧ H c = some (.lst (ns.map V.int)) ∧ c ≠ b ∧ ns.length ≤ 63 ∧ 0 ≤ x ∧ 0 ≤ z ∧ ∀ n ∈ ns, 0 ≤ n
theorem BagAt.same {H H' : Hp} {c b : Addr} (h : BagAt c H b) (s : Same H H') : BagAt c H' b := by
  obtain ⟨x, y, z, ns, h1, h2, h3⟩ := h
  exact ⟨x, y, z, ns, s _ _ h1, s _ _ h2, h3⟩
theorem BagAt.lst {H : Hp} {c b : Addr} (h : BagAt c H b) : ∃ x y z, H b = some (.lst [.int x, .int y, .int z, .ref c]) := by
  obtain ⟨x, y, z, ns, h1, _⟩ := h
  exact ⟨x, y, z, h1⟩
theorem bag_lot {H H' : Hp} {c b a : Addr} {xs : Lot} (h : BagAt c H b) (s : Sb b H H') (k : LotAt H a xs) : LotAt H' a xs := by
  obtain ⟨x, y, z, e⟩ := h.lst
  exact k.sb e s
theorem bag_rows {H H' : Hp} {c b : Addr} {rs : List (Addr × Row)} (h : BagAt c H b) (s : Sb b H H') (k : RowsAt H rs) : RowsAt H' rs := by
  obtain ⟨x, y, z, e⟩ := h.lst
  exact k.sb e s
theorem bag_row {H H' : Hp} {c b r : Addr} {x : Row} (h : BagAt c H b) (s : Sb b H H') (k : RowAt H r x) : RowAt H' r x := by
  obtain ⟨x, y, z, e⟩ := h.lst
  exact k.sb e s
/-- a list of references is not the bag -/
theorem bag_refs {H H' : Hp} {c b l : Addr} {α : Type} {as : List α} {f : α → Addr} (h : BagAt c H b) (s : Sb b H H') (k : H l = some (.lst (as.map fun a => V.ref (f a)))) : H' l = some (.lst (as.map fun a => V.ref (f a))) := by
  obtain ⟨x, y, z, e⟩ := h.lst
  refine s _ _ (fun q => ?_) k
  rw [q, e] at k
  have k := HO.lst.inj (Option.some.inj k)
  cases as with
  | nil => cases k
  | cons a as => cases (List.cons.inj k).1
theorem bag_other {H H' : Hp} {c b l : Addr} {o : HO} (h : BagAt c H b) (s : Sb b H H') (k : H l = some o) (n : ∀ xs, o ≠ .lst xs) : H' l = some o := by
  obtain ⟨x, y, z, e⟩ := h.lst
  refine s _ _ (fun q => ?_) k
  rw [q, e] at k
  exact n _ (Option.some.inj k).symm
theorem bag_rules {H H' : Hp} {c b p C : Addr} {M : Lot} {rs : List (Addr × Row)} (h : BagAt c H b) (s : Sb b H H') (k : RulesAt C H p M rs) : RulesAt C H' p M rs := by
  obtain ⟨dx, l, m, h1, h2, h3, h4⟩ := k
  exact ⟨dx, l, m, bag_other h s h1 (fun _ z => nomatch z), bag_lot h s h2, bag_refs (f := fun r : Addr × Row => r.1) h s h3, bag_rows h s h4⟩
theorem bag_new {H : Hp} {c b p : Addr} (h : BagAt c H b) (k : H p = none) : b ≠ p := by
  obtain ⟨x, y, z, e⟩ := h.lst
  exact ne_of_none e k
theorem bag_cell {H : Hp} {c b p : Addr} (h : BagAt c H b) (k : H p = none) : c ≠ p := by
  obtain ⟨x, y, z, ns, h1, h2, _⟩ := h
  exact ne_of_none h2 k
theorem BagAt.upd {H : Hp} {c b l : Addr} {o : HO} (h : BagAt c H b) (n1 : b ≠ l) (n2 : c ≠ l) : BagAt c (upd H l o) b := by
  obtain ⟨x, y, z, ns, h1, h2, h3⟩ := h
  exact ⟨x, y, z, ns, by rw [upd_ne n1]; exact h1, by rw [upd_ne n2]; exact h2, h3⟩
theorem sb_new {H H' : Hp} {b l : Addr} {o : HO} (s : Sb b H H') (k : H l = none) : Sb b H (upd H' l o) := fun a u n e => by
  rw [upd_ne (ne_of_none e k)]
  exact s a u n e
section
variable {X : Cx}
/-- xs[i] by values, for xs[i] op= e -/
theorem get_list : PGet X (rIxL X.K) := by
  intro pins s σ H x y v u Q I rx ry h
  obtain ⟨p, xs, i, z, rfl, rfl, hq, he, q⟩ := h
  cases rx
  obtain ⟨t, rfl⟩ := ry
  obtain ⟨its, r, pl, hz⟩ := I.list hq
  obtain ⟨j, h1, h2, h3, h4, h5⟩ := atI_get he
  obtain ⟨w, ew, rw'⟩ := r.get h2
  have hl := r.length
  have hn := line63
  have fin : EP X pins σ Q w s := ⟨z, H, I, rw', q⟩
  by_cases h0 : 0 ≤ i
  · have hj : i.toNat = j := by
      rw [seqIndex_of h0 h5] at h1
      exact Option.some.inj h1
    exact getItem_listL pl.isList h0 (by omega) (by rw [hj]; simpa using ew) fin
  · have hj : (i + (its.toArray.size : Int)).toNat = j := by
      rw [seqIndex_neg (by omega) h4] at h1
      rw [List.size_toArray, ← hl]
      exact Option.some.inj h1
    exact wpAny_getItem_list_neg pl.isList (by omega) (by rw [List.size_toArray] <;> omega) (by omega) (by rw [hj]; simpa using ew) fin
end
theorem ixN_of {n j : Nat} (h : j < n) : ixN n (j : Int) = some j := by
  unfold ixN
  rw [if_pos (by omega), if_pos (by omega)]
  simp
section
variable {P : Program} {w : World} {K : PySem.W.Frag} {mg : PySem.Str → Option Value} {base : Heap}
/-! ### one draw -/
def spTake : Sp := fun vs H Q _ => ∃ (b c : Addr) (m : Int), vs = [.ref b, .int m] ∧ BagAt c H b ∧ 0 < m ∧ m ≤ 1000000 ∧
  ∀ H' r, Sb b H H' → BagAt c H' b → r < m.toNat → Q (.int (r : Nat)) H'
theorem ok_take (A : At K mg "_law_take" sTake ["_law_bag_here", "_law_many"]) (B : Blt mg) : Dn P w K mg base 1 "_law_take" spTake := by
  obtain ⟨f, fd, F, hm, hb⟩ := A.ex
  refine ⟨f, fd, _, F.ok scTake (fun vs H Q E h => ?_) (fun cdv A outer s H vs Q E hr h => ?_), hm, F.kp, hb⟩
  · obtain ⟨b, c, m, rfl, _⟩ := h
    rfl
  · obtain ⟨b, c, m, rfl, hB, m0, m1, q⟩ := h
    have nd := scTake.nd
    refine ⟨_, C8.pss_cut (ps_if (pt_cmpR op_eq (pe_ix ix_list (pv 0) pe_int (fun _ _ => rfl)) pe_int (nomark _))
        (pss_cons (ps_set (i := 2) nd rfl (Or.inl rfl) pe_int)
        (C8.pss_cut (ps_if (pt_cmpR op_lt (pe_ix ix_list (pv 0) pe_int (fun _ _ => rfl)) (pe_callB call_len_seq (by rfl) B.len PySem.boot_len (pa_cons (pe_ix ix_list (pv 0) pe_int (fun _ _ => rfl)) pa_nil)) (nomark _))
            (pss_one (ps_set (i := 2) nd rfl (Or.inl rfl) (pe_ix ix_list (pe_ix ix_list (pv 0) pe_int (fun _ _ => rfl)) (pe_ix ix_list (pv 0) pe_int (fun _ _ => rfl)) (fun _ _ => rfl)))) pss_nil)
        (pss_cons (ps_augS (pv 0) pe_int get_list pe_int ip_add set_list)
        (C8.pss_cut (ps_if (pt_cmpR op_ge (pv 2) pe_int (nomark _)) (pss_one (ps_asg (pv 2) (pg_sub (pv 0) pe_int set_list))) pss_nil)
        (pss_cons (ps_set (i := 3) nd rfl (Or.inl rfl) (pe_op op_add (pe_op op_add (pe_op op_mul (pe_ix ix_list (pv 0) pe_int (fun _ _ => rfl)) pe_int)
            (pe_op op_mod (pe_callTy call_int1 (by rfl) B.int PyProof.Rows.boot_int (pa_cons (pv 2) pa_nil)) pe_int)) (pe_op op_mul pe_int (pe_ix ix_list (pv 0) pe_int (fun _ _ => rfl)))))
        (pss_one (ps_asg (pe_op op_mod (pe_callTy call_int1 (by rfl) B.int PyProof.Rows.boot_int (pa_cons (pv 3) pa_nil)) pe_int) (pg_sub (pv 0) pe_int set_list)))))))) pss_nil)
      (pss_cons (ps_if (pt_cmpR op_gt (pe_ix ix_list (pv 0) pe_int (fun _ _ => rfl)) pe_int (nomark _))
        (pss_cons (ps_set (i := 4) nd rfl (Or.inl rfl) (pe_op op_mod (pe_callTy call_int1 (by rfl) B.int PyProof.Rows.boot_int (pa_cons (pe_ix ix_list (pv 0) pe_int (fun _ _ => rfl)) pa_nil)) (pv 1)))
        (pss_cons (ps_asg (pe_op op_fdiv (pe_ix ix_list (pv 0) pe_int (fun _ _ => rfl)) (pv 1)) (pg_sub (pv 0) pe_int set_list))
        (pss_one (ps_ret (pv 4))))) pss_nil)
      (pss_cons (ps_set (i := 5) nd rfl (Or.inl rfl) (pe_op op_mod (pe_callTy call_int1 (by rfl) B.int PyProof.Rows.boot_int (pa_cons (pe_op op_mul (pe_op op_add (pe_ix ix_list (pv 0) pe_int (fun _ _ => rfl)) pe_int) pe_int) pa_nil)) pe_int))
      (pss_cons (ps_set (i := 6) nd rfl (Or.inl rfl) (pe_op op_mod (pe_callTy call_int1 (by rfl) B.int PyProof.Rows.boot_int (pa_cons (pe_op op_mul (pe_op op_mod (pe_callTy call_int1 (by rfl) B.int PyProof.Rows.boot_int
          (pa_cons (pe_op op_mul (pv 5) (pv 5)) pa_nil)) pe_int) pe_int) pa_nil)) pe_int))
      (pss_cons (ps_if (pt_cmpR op_gt (pv 1) pe_int (nomark _)) (pss_one ps_never) pss_nil)
      (pss_one (ps_ret (pe_op op_mod (pe_callTy call_int1 (by rfl) B.int PyProof.Rows.boot_int (pa_cons (pe_op op_fdiv (pv 6) pe_int) pa_nil)) (pv 1)))))))), ?_⟩
    refine ⟨fun σ' H' => ∃ y2 y3 : Option V, σ' = [some (.ref b), some (.int m), y2, y3, none, none, none] ∧ Sb b H H' ∧ BagAt c H' b, ?_, ?_⟩
    · obtain ⟨x, y, z, ns, h1, h2, h3, h4, h5, h6, h7⟩ := id hB
      refine ⟨_, rfl, b, _, _, _, rfl, rfl, SqL.of h1, atI_nat (j := 0) rfl, rfl, _, rfl, ite2 (fun e => ?_) (fun e => ⟨none, none, rfl, Sb.refl _ _, hB⟩)⟩
      refine ⟨fun σ' H' => ∃ v : Int, σ' = [some (.ref b), some (.int m), some (.int v), none, none, none, none] ∧ H' = H ∧ 0 ≤ v, ?_, ?_⟩
      · refine ⟨_, rfl, b, _, _, _, rfl, rfl, SqL.of h1, atI_nat (j := 2) rfl, _, rfl, b, _, _, _, rfl, rfl, SqL.of h1, atI_nat (j := 3) rfl, c, _, rfl, .inl (SqL.of h2), _, _, rfl, rfl, _, rfl, ite2 (fun e => ?_) (fun e => ⟨0, rfl, rfl, Int.le_refl _⟩)⟩
        have zl : z < ((ns.map V.int).length : Int) := of_decide_eq_true e
        rw [List.length_map] at zl
        have zn : z.toNat < ns.length := by omega
        refine ⟨_, rfl, b, _, _, _, rfl, rfl, SqL.of h1, atI_nat (j := 3) rfl, _, rfl, b, _, _, _, rfl, rfl, SqL.of h1, atI_nat (j := 2) rfl, c, _, _, V.int ns[z.toNat], rfl, rfl, SqL.of h2, ?_, ns[z.toNat], rfl, rfl, h7 _ (List.getElem_mem zn)⟩
        have e9 : (ns.map V.int)[z.toNat]? = some (V.int ns[z.toNat]) := by
          rw [List.getElem?_map, List.getElem?_eq_getElem zn]
          rfl
        have e8 := atI_nat e9
        rw [Int.toNat_of_nonneg h6] at e8
        exact e8
      · rintro σ' H' ⟨v, rfl, rfl, v0⟩
        refine ⟨_, rfl, b, _, _, _, rfl, rfl, SqL.of h1, atI_nat (j := 2) rfl, _, _, rfl, rfl, b, _, 2, 2, rfl, rfl, h1, rfl, ?_⟩
        have k1 : (upd H' b (.lst [.int x, .int y, .int (z + 1), .ref c])) b = some (.lst [.int x, .int y, .int (z + 1), .ref c]) := upd_same
        have s1 : Sb b H' (upd H' b (.lst [.int x, .int y, .int (z + 1), .ref c])) := sb_upd
        show C8.tCut _ _ _ _ (upd H' b (.lst [.int x, .int y, .int (z + 1), .ref c]))
        revert k1 s1
        generalize upd H' b (.lst [.int x, .int y, .int (z + 1), .ref c]) = H1
        intro k1 s1
        refine ⟨fun σ' H2 => ∃ x' : Int, σ' = [some (.ref b), some (.int m), some (.int v), none, none, none, none] ∧ 0 ≤ x' ∧ H2 b = some (.lst [.int x', .int y, .int (z + 1), .ref c]) ∧ Sb b H' H2, ?_, ?_⟩
        · refine ⟨_, rfl, _, _, rfl, rfl, _, rfl, ite2 (fun e => ?_) (fun e => ⟨x, rfl, h5, k1, s1⟩)⟩
          exact ⟨_, rfl, _, rfl, b, _, 0, 0, rfl, rfl, k1, rfl, v, rfl, v0, upd_same, s1.trans sb_upd⟩
        · rintro σ' H2 ⟨x', rfl, x0, k2, s2⟩
          refine ⟨_, rfl, b, _, _, _, rfl, rfl, SqL.of k2, atI_nat (j := 1) rfl, _, _, rfl, rfl, .inr (by decide), _, rfl, .inl ⟨_, rfl, _, _, rfl, rfl, (show (0 : Int) < 2147483647 by decide), _, _, rfl, rfl, ?_⟩⟩
          refine ⟨_, rfl, b, _, _, _, rfl, rfl, SqL.of k2, atI_nat (j := 2) rfl, _, _, rfl, rfl, .inl (by decide), _, _, rfl, rfl, ?_⟩
          refine ⟨_, rfl, .inl ⟨_, rfl, _, _, rfl, rfl, (show (0 : Int) < 2147483647 by decide), _, rfl, b, _, 1, 1, rfl, rfl, k2, rfl, _, _, rfl, s2.trans sb_upd, ?_⟩⟩
          exact ⟨x', _, z + 1, ns, upd_same, by rw [upd_ne h3]; exact s2 _ _ h3 h2, h3, h4, x0, by omega, h7⟩
    · rintro σ1 H1 ⟨y2, y3, rfl, s1, hB1⟩
      obtain ⟨x, y, z, ns, h1, h2, h3, h4, h5, h6, h7⟩ := id hB1
      refine ⟨_, rfl, b, _, _, _, rfl, rfl, SqL.of h1, atI_nat (j := 0) rfl, _, _, rfl, rfl, _, rfl, ite2 (fun e => ?_) (fun e => ?_)⟩
      · refine ⟨_, rfl, b, _, _, _, rfl, rfl, SqL.of h1, atI_nat (j := 0) rfl, .inl ⟨_, rfl, _, rfl, _, _, rfl, rfl, m0, ?_⟩⟩
        refine ⟨_, rfl, b, _, _, _, rfl, rfl, SqL.of h1, atI_nat (j := 0) rfl, _, rfl, _, _, rfl, rfl, ⟨m0, by omega⟩, _, rfl, b, _, 0, 0, rfl, rfl, h1, rfl, ?_⟩
        refine ⟨_, rfl, ?_⟩
        have e1 := Int.emod_nonneg x (show m ≠ 0 by omega)
        have e2 := Int.emod_lt_of_pos x m0
        show Q (V.int (x % m)) _
        rw [show x % m = ((x % m).toNat : Int) by omega]
        refine q _ _ (s1.trans sb_upd) ⟨_, y, z, ns, upd_same, by rw [upd_ne h3]; exact h2, h3, h4, Int.ediv_nonneg h5 (Int.le_of_lt m0), h6, h7⟩ (by omega)
      · refine ⟨_, rfl, b, _, _, _, rfl, rfl, SqL.of h1, atI_nat (j := 1) rfl, _, _, rfl, rfl, _, _, rfl, rfl, .inr (by decide), .inl ⟨_, rfl, _, _, rfl, rfl, (show (0 : Int) < 1000000007 by decide), ?_⟩⟩
        have g0 : 0 ≤ (y + 1) * 39373 % 1000000007 := Int.emod_nonneg _ (by decide)
        have g1 : (y + 1) * 39373 % 1000000007 < 1000000007 := Int.emod_lt_of_pos _ (by decide)
        have g2 : -(2 ^ 64) < (y + 1) * 39373 % 1000000007 ∧ (y + 1) * 39373 % 1000000007 < 2 ^ 64 := ⟨by omega, by omega⟩
        have fin : ∀ t : Int, Q (V.int (t % m)) H1 := fun t => by
          have e1 := Int.emod_nonneg t (show m ≠ 0 by omega)
          have e2 := Int.emod_lt_of_pos t m0
          rw [show t % m = ((t % m).toNat : Int) by omega]
          exact q _ _ s1 hB1 (by omega)
        refine ⟨_, rfl, _, rfl, _, _, rfl, rfl, .inl g2, .inl ⟨_, rfl, _, _, rfl, rfl, (show (0 : Int) < 998244353 by decide), _, _, rfl, rfl, .inr (by decide), .inl ⟨_, rfl, _, _, rfl, rfl, (show (0 : Int) < 998244353 by decide), ?_⟩⟩⟩
        refine ⟨_, rfl, _, _, rfl, rfl, _, rfl, ?_⟩
        rw [decide_eq_false (show ¬ (1000000 : Int) < m by omega)]
        exact iteF ⟨_, rfl, _, _, rfl, rfl, ⟨by decide, by decide⟩, .inl ⟨_, rfl, _, rfl, _, _, rfl, rfl, m0, fin _⟩⟩
end
end K16
/-! K16Draw: the bag made; a lot in some order, one of a list, a lot drawn, a few marks drawn. -/
namespace K16
open PySem PySem.Spec PyProof.Rows L2
theorem cut_map {α : Type} (f : α → V) (xs : List α) (k : Nat) : cutV (xs.map f) none (some (k : Int)) = (xs.take k).map f := by
  unfold cutV
  rw [HT.sIx_none, HT.sIx_nat, List.drop_zero, Nat.sub_zero, List.map_take]
  rcases Nat.le_total k (xs.map f).length with h | h
  · rw [Nat.min_eq_left h]
  · rw [Nat.min_eq_right h, List.take_of_length_le h, List.take_of_length_le (Nat.le_refl _)]
section
variable {P : Program} {w : World} {K : PySem.W.Frag} {mg : PySem.Str → Option Value} {base : Heap}
def spBag (K : PySem.W.Frag) : Sp := fun vs H Q _ => ∃ (a : Addr) (ns : List Int), vs = [.ref a] ∧ SqL K H a (ns.map V.int) ∧ ∀ H' b c, Same H H' → BagAt c H' b → Q (.ref b) H'
theorem ok_bag (A : At K mg "_law_bag" sBag ["_law_script"]) (B : Blt mg) : Dn P w K mg base 1 "_law_bag" (spBag K) := by
  obtain ⟨f, fd, F, hm, hb⟩ := A.ex
  refine ⟨f, fd, _, F.ok scBag (fun vs H Q E h => ?_) (fun cdv A outer s H vs Q E hr h => ?_), hm, F.kp, hb⟩
  · obtain ⟨a, ns, rfl, _⟩ := h
    rfl
  · obtain ⟨a, ns, rfl, ha, q⟩ := h
    refine ⟨_, pss_one (ps_ret (pe_lst (pa_cons pe_int (pa_cons pe_int (pa_cons pe_int (pa_cons
      (pe_lc (own := [("_law_cell", 1)]) (g := gName 1) (tt := tYes) (te := tCB (fun xs H Q => ∃ i, xs = [.int i] ∧ Q (.int (if i < 0 then -i else i)) H) (tCons (tVar 1) tNil)) rfl scBag.nd (pi_list (pe_slice sl_list (pv 0) po_none (po_some pe_int)))
        (blkOk_by (own := [("_law_cell", 1)]) (N := ["_law_script", "_law_cell"]) (sc := defScope sBag) (by decide +kernel))
        (fun _ _ _ _ _ => pg_name (i := 1) scBag.nd rfl (Or.inl rfl)) (fun _ _ _ _ _ => pts_nil) (fun _ _ _ _ _ => pe_callB call_abs (by rfl) B.abs PyProof.Rows.boot_abs (pa_cons (pv 1) pa_nil))) pa_nil)))))), ?_⟩
    refine ⟨_, rfl, _, rfl, a, _, rfl, ha, fun l hl => ?_⟩
    rw [show cutV (ns.map V.int) none (some 63) = (ns.take 63).map V.int from cut_map V.int ns 63]
    have s1 : Same H (upd H l (.lst ((ns.take 63).map V.int))) := same_upd hl
    have l63 : (ns.take 63).length ≤ 63 := by
      rw [List.length_take]
      omega
    refine ⟨l, rfl, ⟨_, SqL.of upd_same⟩, fun D hD => ?_⟩
    refine lc_same (w := walk_list (K := K) (a := l) (xs := (ns.take 63).map V.int)) (ns.take 63) V.int (fun _ => true) (fun i => .int (if i < 0 then -i else i)) (List.length_map _) (yat (List.length_map _)) hD (fun H3 s3 => SqL.of (s3 _ _ upd_same)) (Nat.lt_of_le_of_lt l63 (by decide))
      (fun i hi H3 s3 C N c n => ⟨rfl, _, rfl, i, rfl, c rfl H3 (Same.refl _)⟩) fun H' s' hd => ?_
    rw [List.filter_eq_self.mpr (fun _ _ => rfl)] at hd
    refine ⟨by show 4 ≤ sizeLine; decide, fun b hb => ?_⟩
    have s2 := s1.trans s'
    refine q _ b D (s2.trans (same_upd hb)) ⟨0, 1234567891, 0, (ns.take 63).map fun i => if i < 0 then -i else i, upd_same, ?_, ne_of_none hd hb, by rw [List.length_map]; exact l63, Int.le_refl _, Int.le_refl _, fun n hn => ?_⟩
    · rw [upd_ne (ne_of_none hd hb), hd, List.map_map]
      rfl
    · obtain ⟨i, _, rfl⟩ := List.mem_map.mp hn
      show 0 ≤ if i < 0 then -i else i
      split <;> omega
/-! ### in some order -/
def spMixed : Sp := fun vs H Q _ => ∃ (b c a : Addr) (M : Lot), vs = [.ref b, .ref a] ∧ BagAt c H b ∧ LotAt H a M ∧ ∀ (H' : Hp) (l : Addr) (ys : Lot), Sb b H H' → BagAt c H' b → H' l = some (.lst (ys.map V.str)) → ys.Perm M → Q (.ref l) H'
theorem ok_mixed (A : At K mg "_law_mixed" sMixed ["_law_bag_here", "_law_things"]) (B : Blt mg) (G : Dn P w K mg base 1 "_law_take" spTake) : Dn P w K mg base 2 "_law_mixed" spMixed := by
  obtain ⟨f, fd, F, hm, hb⟩ := A.ex
  refine ⟨f, fd, _, F.ok scMixed (fun vs H Q E h => ?_) (fun cdv A outer s H vs Q E hr h => ?_), hm, F.kp, hb⟩
  · obtain ⟨b, c, a, M, rfl, _⟩ := h
    rfl
  · obtain ⟨b, c, a, M, rfl, hB, hM, q⟩ := h
    have nd := scMixed.nd
    refine ⟨_, pss_cons (ps_set (i := 2) nd rfl (Or.inl rfl) (pe_lst pa_nil))
      (pss_cons (ps_for PassesOwn.never rfl (pi_tup (pv 1)) (pg_name (i := 3) nd rfl (Or.inl rfl))
        (pss_one (ps_expr (pe_bm PySem.F.plainAttrs_list PySem.F.slot_list_insert PySem.F.type_list_insert mt_insert (pv 2) (pa_cons
          (pe_d G hr (by rfl) (pa_cons (pv 0) (pa_cons (pe_op op_add (pe_callB call_len_seq (by rfl) B.len PySem.boot_len (pa_cons (pv 2) pa_nil)) pe_int) pa_nil))) (pa_cons (pv 3) pa_nil))))))
      (pss_one (ps_ret (pv 2)))), ?_⟩
    refine ⟨Nat.zero_le _, fun l hl => ?_⟩
    have bl := bag_new hB hl
    have cl := bag_cell hB hl
    refine ⟨_, rfl, a, rfl, ⟨_, (hM.same (same_upd hl)).seq⟩, for_tup (K := K) (a := a) (xs := M.map V.str) (fun i σ H' => ∃ (y3 : Option V) (ys : Lot), σ = [some (.ref b), some (.ref a), some (.ref l), y3] ∧ Sb b H H' ∧ BagAt c H' b ∧ H' l = some (.lst (ys.map V.str)) ∧ ys.Perm (M.take i))
      ⟨none, [], rfl, Sb.of (same_upd hl), hB.upd bl cl, upd_same, List.Perm.refl _⟩ (fun i σ H' _ ⟨_, _, _, s, _⟩ => (bag_lot hB s hM).seq) ?_ ?_⟩
    · rintro i x σ H' hi ⟨y3, ys, rfl, s1, hB1, h1, pm⟩
      rw [List.getElem?_map] at hi
      obtain ⟨m, hm1, hm2⟩ := Option.map_eq_some_iff.mp hi
      subst hm2
      have hi6 : i < M.length := (List.getElem?_eq_some_iff.mp hm1).1
      have yl : ys.length ≤ 20 := by
        rw [pm.length_eq, List.length_take]
        have := hM.2
        omega
      refine ⟨_, rfl, .inl ⟨rfl, _, SqL.of h1⟩, _, rfl, _, rfl, l, _, rfl, .inl (SqL.of h1), _, _, rfl, rfl, b, c, _, rfl, hB1, ?_, ?_, fun H2 r s2 hB2 hr2 => ?_⟩
      · omega
      · rw [List.length_map]
        omega
      have h2 : H2 l = some (.lst (ys.map V.str)) := s2 _ _ bl.symm h1
      rw [List.length_map] at hr2
      refine ⟨_, rfl, l, _, _, _, rfl, rfl, h2, ?_, by omega, by omega, some (.str m), ys.take r ++ [m] ++ ys.drop r, rfl, sb_new (s1.trans s2) hl, hB2.upd bl cl, ?_, ?_⟩
      · rw [List.length_map]
        exact few yl
      · rw [upd_same, Int.toNat_natCast, List.map_append, List.map_append, List.map_take, List.map_drop]
        rfl
      · rw [List.take_add_one, hm1]
        refine List.Perm.trans ?_ (pm.append_right [m])
        have e := List.take_append_drop r ys
        refine List.Perm.trans ?_ (List.Perm.append_right [m] (List.Perm.of_eq e))
        rw [List.append_assoc, List.append_assoc]
        exact List.Perm.append_left _ List.perm_append_comm
    · rintro σ H' ⟨y3, ys, rfl, s1, hB1, h1, pm⟩
      rw [List.length_map, List.take_length] at pm
      exact ⟨_, rfl, q H' l ys s1 hB1 h1 pm⟩
/-! ### one of a list -/
def spOne : Sp := fun vs H Q _ => ∃ (b c p : Addr) (bs : List (Addr × Lot)), vs = [.ref b, .ref p] ∧ BagAt c H b ∧ H p = some (.lst (refs bs)) ∧ bs ≠ [] ∧ bs.length ≤ 64 ∧ ∀ H' e, Sb b H H' → BagAt c H' b → e ∈ bs → Q (.ref e.1) H'
theorem ok_one (A : At K mg "_law_one" sOne ["_law_bag_here", "_law_things"]) (B : Blt mg) (G : Dn P w K mg base 1 "_law_take" spTake) : Dn P w K mg base 2 "_law_one" spOne := by
  obtain ⟨f, fd, F, hm, hb⟩ := A.ex
  refine ⟨f, fd, _, F.ok scOne (fun vs H Q E h => ?_) (fun cdv A outer s H vs Q E hr h => ?_), hm, F.kp, hb⟩
  · obtain ⟨b, c, p, bs, rfl, _⟩ := h
    rfl
  · obtain ⟨b, c, p, bs, rfl, hB, hp, ne, h64, q⟩ := h
    refine ⟨_, pss_one (ps_ret (pe_ix ix_list (pv 1) (pe_d G hr (by rfl) (pa_cons (pv 0) (pa_cons (pe_callB call_len_seq (by rfl) B.len PySem.boot_len (pa_cons (pv 1) pa_nil)) pa_nil))) (fun _ _ => rfl))), ?_⟩
    have pos := List.length_pos_iff.mpr ne
    refine ⟨_, rfl, _, rfl, _, rfl, p, _, rfl, .inl (SqL.of hp), b, c, _, rfl, hB, ?_, ?_, fun H2 r s2 hB2 hr2 => ?_⟩
    · rw [List.length_map]
      omega
    · rw [List.length_map]
      omega
    rw [List.length_map, Int.toNat_natCast] at hr2
    refine ⟨p, _, _, V.ref bs[r].1, rfl, rfl, SqL.of (bag_refs (f := fun e : Addr × Lot => e.1) hB s2 hp), atI_nat ?_, q H2 bs[r] s2 hB2 (List.getElem_mem hr2)⟩
    rw [List.getElem?_map, List.getElem?_eq_getElem hr2]
    rfl
/-! ### a lot -/
def spLot : Sp := fun vs H Q _ => ∃ (b c a : Addr) (M : Lot), vs = [.ref b, .ref a] ∧ BagAt c H b ∧ LotAt H a M ∧ ∀ H' p ys, Sb b H H' → BagAt c H' b → LotAt H' p ys → ys.Sublist M → Q (.ref p) H'
theorem ok_lot (A : At K mg "_law_lot" sLot ["_law_bag_here", "_law_marks_here"]) (B : Blt mg) (G : Dn P w K mg base 1 "_law_take" spTake) : Dn P w K mg base 2 "_law_lot" spLot := by
  obtain ⟨f, fd, F, hm, hb⟩ := A.ex
  refine ⟨f, fd, _, F.ok scLot (fun vs H Q E h => ?_) (fun cdv A outer s H vs Q E hr h => ?_), hm, F.kp, hb⟩
  · obtain ⟨b, c, a, M, rfl, _⟩ := h
    rfl
  · obtain ⟨b, c, a, M, rfl, hB, hM, q⟩ := h
    refine ⟨_, pss_one (ps_ret (pe_callTy call_tuple_of (by rfl) B.tuple PyProof.Rows.boot_tuple (pa_cons
      (pe_lc (own := [("_law_mark", 2)]) (g := gName 2) (tt := tTest (tOp rEq (tCall spTake [] E0 (tCons (tVar 0) (tCons (tC (.int 2)) tNil))) (tC (.int 0)))) (te := tVar 2) rfl scLot.nd (pi_tup (pv 1))
        (blkOk_by (own := [("_law_mark", 2)]) (N := ["_law_bag_here", "_law_marks_here", "_law_mark"]) (sc := defScope sLot) (by decide +kernel))
        (fun _ _ _ _ _ => pg_name (i := 2) scLot.nd rfl (Or.inl rfl)) (fun _ _ _ _ _ => pts_one (pt_cmpR op_eq (pe_d G hr (by rfl) (pa_cons (pv 0) (pa_cons pe_int pa_nil))) pe_int rfl)) (fun _ _ _ _ _ => pv 2)) pa_nil))), ?_⟩
    refine ⟨_, rfl, a, rfl, ⟨_, hM.seq⟩, fun D hD => ?_⟩
    have bD := bag_new hB hD
    have cD := bag_cell hB hD
    refine lc_it (walk_tup (K := K) (a := a) (xs := M.map V.str)) (fun i H' => ∃ ys : Lot, Sb b H H' ∧ BagAt c H' b ∧ H' D = some (.lst (ys.map V.str)) ∧ ys.Sublist (M.take i)) ⟨[], Sb.of (same_upd hD), hB.upd bD cD, upd_same, List.Sublist.refl _⟩
      (fun i H' _ ⟨_, s, _⟩ => (bag_lot hB s hM).seq) (fun i x H1 H' hi h y => ?_) fun H' h => ?_
    · obtain ⟨e0, y⟩ := y
      subst e0
      obtain ⟨ys, s1, hB1, h1, sub⟩ := h
      rw [List.getElem?_map] at y
      obtain ⟨m, hm1, hm2⟩ := Option.map_eq_some_iff.mp y
      subst hm2
      have tk : M.take (i + 1) = M.take i ++ [m] := by
        rw [List.take_add_one, hm1]
        rfl
      refine ⟨rfl, _, rfl, b, c, _, rfl, hB1, by decide, by decide, fun H2 r s2 hB2 hr2 => ⟨rfl, _, rfl, ?_⟩⟩
      have h2 : H2 D = some (.lst (ys.map V.str)) := s2 _ _ bD.symm h1
      refine ite2 (fun e => ⟨_, rfl, _, h2, ?_, ys ++ [m], sb_new (s1.trans s2) hD, hB2.upd bD cD, ?_, ?_⟩) (fun e => ⟨ys, s1.trans s2, hB2, h2, ?_⟩)
      · have z := sub.length_le
        have z2 := hM.2
        rw [List.length_take] at z
        rw [List.length_map]
        exact few (by omega)
      · rw [upd_same, List.map_append]
        rfl
      · rw [tk]
        exact sub.append (List.Sublist.refl _)
      · rw [tk]
        exact sub.trans (List.sublist_append_left _ _)
    · obtain ⟨ys, s1, hB1, h1, sub⟩ := h
      rw [List.length_map, List.take_length] at sub
      refine ⟨D, _, rfl, .inl ⟨SqL.of h1, fun p hp => ?_⟩⟩
      exact q _ p ys (s1.trans (Sb.of (same_upd hp))) (hB1.same (same_upd hp)) ⟨upd_same, Nat.le_trans sub.length_le hM.2⟩ sub
/-! ### a few marks -/
def spFew : Sp := fun vs H Q _ => ∃ (b c a : Addr) (M : Lot) (k : Nat), vs = [.ref b, .ref a, .int k] ∧ BagAt c H b ∧ LotAt H a M ∧ Srt M ∧ ∀ H' p ys, Sb b H H' → BagAt c H' b → LotAt H' p ys → Srt ys → (∀ x ∈ ys, x ∈ M) → Q (.ref p) H'
theorem ok_few (A : At K mg "_law_few" sFew ["_law_bag_here", "_law_marks_here", "_law_many"]) (B : Blt mg) (G : Dn P w K mg base 2 "_law_mixed" spMixed) : Dn P w K mg base 3 "_law_few" spFew := by
  obtain ⟨f, fd, F, hm, hb⟩ := A.ex
  refine ⟨f, fd, _, F.ok scFew (fun vs H Q E h => ?_) (fun cdv A outer s H vs Q E hr h => ?_), hm, F.kp, hb⟩
  · obtain ⟨b, c, a, M, k, rfl, _⟩ := h
    rfl
  · obtain ⟨b, c, a, M, k, rfl, hB, hM, sM, q⟩ := h
    refine ⟨_, pss_one (ps_ret (pe_callTy call_tuple_of (by rfl) B.tuple PyProof.Rows.boot_tuple (pa_cons (pe_callB cr_sortedS (by rfl) B.sorted PyProof.Rows.boot_sorted (pa_cons
      (pe_slice sl_list (pe_d G hr (by rfl) (pa_cons (pv 0) (pa_cons (pv 1) pa_nil))) po_none (po_some (pv 2))) pa_nil)) pa_nil))), ?_⟩
    refine ⟨_, rfl, _, rfl, b, c, a, M, rfl, hB, hM, fun H1 l ys s1 hB1 h1 pm => ⟨_, rfl, _, rfl, l, _, rfl, SqL.of h1, fun l2 hl2 => ?_⟩⟩
    rw [cut_map V.str ys k]
    have s2 : Same H1 (upd H1 l2 (.lst ((ys.take k).map V.str))) := same_upd hl2
    have yl : (ys.take k).length ≤ 20 := by
      rw [List.length_take, pm.length_eq]
      have := hM.2
      omega
    have ndy : (ys.take k).Nodup := (List.take_sublist k ys).nodup (pm.nodup_iff.mpr sM.nodup)
    refine ⟨l2, _, rfl, SqL.of upd_same, by omega, fun zs l3 pz sz h3 => ?_⟩
    have s3 := s2.trans (same_upd h3 (o := .lst (zs.map V.str)))
    refine ⟨l3, _, rfl, .inl ⟨SqL.of upd_same, fun p hp => ?_⟩⟩
    have s4 := s3.trans (same_upd hp (o := .tup (zs.map V.str)))
    exact q _ p zs (s1.trans (Sb.of s4)) (hB1.same s4) ⟨upd_same, by rw [pz.length_eq]; exact yl⟩ (srt_of pz sz ndy) fun x hx => pm.mem_iff.mp ((List.take_sublist k ys).subset (pz.mem_iff.mp hx))
end
end K16
/-! K16Marks: the marks that the law draws: a good lot of at most six. -/
namespace K16
open PySem PySem.Spec PyProof.Rows L2
def menuS : Lot := Txt.split "has lacks marks yes no so more strike undo redo ab abc a z zzzzzzzz things" " "
theorem menu_len : menuS.length = 16 := by decide +kernel
theorem rot_nd : ∀ t < 16, (menuS.drop t ++ menuS.take t).Nodup := by decide +kernel
theorem rot_ok : ∀ t < 16, ∀ x ∈ menuS.drop t ++ menuS.take t, okM x = true := by decide +kernel
def aas (k : Nat) : PySem.Str := cutS "aaaaaaaa" none (some (k : Int))
theorem srt_dec {xs : Lot} (h : (xs.zip xs.tail).all (fun p => decide (p.1.cps.toList < p.2.cps.toList)) = true) : Srt xs := by
  unfold Srt
  induction xs with
  | nil => exact .nil
  | cons x xs ih =>
    cases xs with
    | nil => exact List.pairwise_singleton _ _
    | cons y ys =>
      have h' : (decide (x.cps.toList < y.cps.toList) && ((y :: ys).zip ys).all (fun p => decide (p.1.cps.toList < p.2.cps.toList))) = true := h
      rw [Bool.and_eq_true] at h'
      have p := ih h'.2
      have q : slt x y := (decide_eq_true_iff (p := x.cps.toList < y.cps.toList)).mp h'.1
      refine List.pairwise_cons.mpr ⟨fun z hz => ?_, p⟩
      rcases List.mem_cons.mp hz with e | m
      · rw [e]
        exact q
      · exact slt_trans q ((List.pairwise_cons.mp p).1 z m)
theorem aas_good : ∀ n < 7, Good ((List.range n).map fun k => aas (k + 1)) := fun n hn => by
  have s : Srt ((List.range 6).map fun k => aas (k + 1)) := srt_dec (by decide +kernel)
  have o : ∀ x ∈ (List.range 6).map fun k => aas (k + 1), okM x = true := by decide +kernel
  have g : Good ((List.range 6).map fun k => aas (k + 1)) := ⟨s, o⟩
  refine g.sub ?_
  have e : List.range n = (List.range 6).take n := by rw [List.take_range, Nat.min_eq_left (by omega)]
  rw [e, List.map_take]
  exact List.take_sublist _ _
def lets : PySem.Str := "abcdefghijklmnopqrstuvwxyz"
/-- one letter -/
def sgn (j : Nat) : PySem.Str := ⟨#[lets.cps.toList.getD j 0]⟩
theorem sgn_at {j : Nat} (h : j < 26) : atI lets.cps.toList (j : Int) = some (lets.cps.toList.getD j 0) := by
  have l : lets.cps.toList.length = 26 := by decide +kernel
  refine atI_nat ?_
  rw [List.getD_eq_getElem?_getD, List.getElem?_eq_getElem (by omega)]
  rfl
def stm (way t : Nat) : PySem.Str := if way = 2 then "" else if way = 3 then sgn t else "zzzzzzz"
def its (way t n : Nat) : Lot := (List.range n).map fun k => stm way t ++ sgn ((t + 3 * k) % 26)
theorem its_nd6 : ∀ t < 16, ∀ way < 5, 2 ≤ way → (its way t 6).Nodup := by decide +kernel
theorem its_ok6 : ∀ t < 16, ∀ way < 5, 2 ≤ way → ∀ x ∈ its way t 6, okM x = true := by decide +kernel
theorem its_take {way t n : Nat} (h : n < 7) : its way t n = (its way t 6).take n := by
  unfold its
  rw [← List.map_take, List.take_range, Nat.min_eq_left (by omega)]
theorem its_nd {way t n : Nat} (h : n < 7) (ht : t < 16) (h1 : way < 5) (h2 : 2 ≤ way) : (its way t n).Nodup := by
  rw [its_take h]
  exact (List.take_sublist _ _).nodup (its_nd6 t ht way h1 h2)
theorem its_ok {way t n : Nat} (h : n < 7) (ht : t < 16) (h1 : way < 5) (h2 : 2 ≤ way) : ∀ x ∈ its way t n, okM x = true := by
  rw [its_take h]
  exact fun x hx => its_ok6 t ht way h1 h2 x ((List.take_sublist _ _).subset hx)
theorem stm_len {way t : Nat} : (stm way t).length ≤ 7 := by
  unfold stm
  split
  · decide +kernel
  · split
    · exact Nat.le_trans (Nat.le_refl 1) (by decide)
    · decide +kernel
section
variable {P : Program} {w : World} {K : PySem.W.Frag} {mg : PySem.Str → Option Value} {base : Heap}
def spLMarks : Sp := fun vs H Q _ => ∃ (b c : Addr) (n : Nat), vs = [.ref b, .int n] ∧ BagAt c H b ∧ n < 7 ∧ ∀ (H' : Hp) (p : Addr) (M : Lot), Sb b H H' → BagAt c H' b → LotAt H' p M → Good M → M.length ≤ 6 → Q (.ref p) H'
theorem ok_lmarks (A : At K mg "_law_marks" sLMarks ["_law_bag_here", "_law_many"]) (B : Blt mg) (G : Dn P w K mg base 1 "_law_take" spTake) : Dn P w K mg base 2 "_law_marks" spLMarks := by
  obtain ⟨f, fd, F, hm, hb⟩ := A.ex
  refine ⟨f, fd, _, F.ok scLMarks (fun vs H Q E h => ?_) (fun cdv A outer s H vs Q E hr h => ?_), hm, F.kp, hb⟩
  · obtain ⟨b, c, n, rfl, _⟩ := h
    rfl
  · obtain ⟨b, c, n, rfl, hB, h7, q⟩ := h
    have nd := scLMarks.nd
    refine ⟨_, pss_cons (ps_set (i := 2) nd rfl (Or.inl rfl) (pe_split pe_str pe_str))
      (pss_cons (ps_asg (pe_tup (pa_cons (pe_d G hr (by rfl) (pa_cons (pv 0) (pa_cons pe_int pa_nil))) (pa_cons (pe_d G hr (by rfl) (pa_cons (pv 0) (pa_cons pe_int pa_nil))) pa_nil)))
          (pg_tup rfl (pgs_cons (pg_name (i := 3) nd rfl (Or.inl rfl)) (pgs_cons (pg_name (i := 4) nd rfl (Or.inr rfl)) pgs_nil))))
      (pss_cons (ps_if (pt_cmpR op_eq (pv 3) pe_int (nomark _)) (pss_one (ps_ret (pe_callTy call_tuple_of (by rfl) B.tuple PyProof.Rows.boot_tuple (pa_cons (pe_callB cr_sortedS (by rfl) B.sorted PyProof.Rows.boot_sorted (pa_cons
          (pe_slice sl_list (pe_op op_cat (pe_slice sl_list (pv 2) (po_some (pv 4)) po_none) (pe_slice sl_list (pv 2) po_none (po_some (pv 4)))) po_none (po_some (pv 1))) pa_nil)) pa_nil)))) pss_nil)
      (pss_cons (ps_if (pt_cmpR op_eq (pv 3) pe_int (nomark _)) (pss_one (ps_ret (pe_callTy call_tuple_of (by rfl) B.tuple PyProof.Rows.boot_tuple (pa_cons
          (pe_lc (own := [("_law_k", 7)]) (g := gName 7) (tt := tYes) (te := tSl rSlS (tC (.str "aaaaaaaa")) tNoPart (tPart (tOp (rI0 fun i j => .int (i + j)) (tVar 7) (tC (.int 1))))) rfl nd (pi_range1 rfl B.range (pa_cons (pv 1) pa_nil))
            (blkOk_by (own := [("_law_k", 7)]) (N := ["_law_bag_here", "_law_many", "_law_menu", "_law_way", "_law_turn", "_law_letters", "_law_stem", "_law_k"]) (sc := defScope sLMarks) (by decide +kernel))
            (fun _ _ _ _ _ => pg_name (i := 7) nd rfl (Or.inl rfl)) (fun _ _ _ _ _ => pts_nil) (fun _ _ _ _ _ => pe_slice sl_str pe_str po_none (po_some (pe_op op_add (pv 7) pe_int)))) pa_nil)))) pss_nil)
      (pss_cons (ps_set (i := 5) nd rfl (Or.inr rfl) pe_str)
      (pss_cons (ps_set (i := 6) nd rfl (Or.inr rfl) (pe_ix ix_list (pe_lst (pa_cons pe_str (pa_cons pe_str (pa_cons (pe_ix ix_str (pv 5) (pv 4) (fun _ _ => rfl)) (pa_cons pe_str pa_nil))))) (pe_op op_sub (pv 3) pe_int) (fun _ _ => rfl)))
      (pss_one (ps_ret (pe_callTy call_tuple_of (by rfl) B.tuple PyProof.Rows.boot_tuple (pa_cons (pe_callB cr_sortedS (by rfl) B.sorted PyProof.Rows.boot_sorted (pa_cons
          (pe_lc (own := [("_law_k", 7)]) (g := gName 7) (tt := tYes) (te := tOp (fun x y H Q => ∃ i j, x = .str i ∧ y = .str j ∧ i.length + j.length ≤ sizeLine ∧ Q (.str (i ++ j)) H) (tVar 6)
              (tOp rIxS (tVar 5) (tOp (rI (fun _ j => 0 < j) fun i j => .int (i % j)) (tCB (fun xs H Q => (∃ i, xs = [.int i] ∧ Q (.int i) H) ∨ ∃ k, xs = [.bl k] ∧ Q (.int (if k then 1 else 0)) H) (tCons (tOp (rI0 fun i j => .int (i + j)) (tVar 4) (tOp (rI CMul fun i j => .int (i * j)) (tC (.int 3)) (tVar 7))) tNil)) (tC (.int 26))))) rfl nd (pi_range1 rfl B.range (pa_cons (pv 1) pa_nil))
            (blkOk_by (own := [("_law_k", 7)]) (N := ["_law_bag_here", "_law_many", "_law_menu", "_law_way", "_law_turn", "_law_letters", "_law_stem", "_law_k"]) (sc := defScope sLMarks) (by decide +kernel))
            (fun _ _ _ _ _ => pg_name (i := 7) nd rfl (Or.inl rfl)) (fun _ _ _ _ _ => pts_nil)
            (fun _ _ _ _ _ => pe_op op_add_str (pv 6) (pe_ix ix_str (pv 5) (pe_op op_mod (pe_callTy call_int1 (by rfl) B.int PyProof.Rows.boot_int (pa_cons (pe_op op_add (pv 4) (pe_op op_mul pe_int (pv 7))) pa_nil)) pe_int) (fun _ _ => rfl)))) pa_nil)) pa_nil))))))))), ?_⟩
    refine ⟨⟨_, rfl⟩, _, _, rfl, rfl, by decide +kernel, by decide +kernel, fun m hm2 => ?_⟩
    have bm := bag_new hB hm2
    have cm := bag_cell hB hm2
    have s0 : Sb b H (upd H m (.lst (menuS.map V.str))) := Sb.of (same_upd hm2)
    refine ⟨_, rfl, b, c, _, rfl, hB.upd bm cm, by decide, by decide, fun H1 way s1 hB1 hway => ⟨_, rfl, b, c, _, rfl, hB1, by decide, by decide, fun H2 t s2 hB2 ht => ?_⟩⟩
    have s3 := (s0.trans s1).trans s2
    have hM2 : H2 m = some (.lst (menuS.map V.str)) := s2 _ _ bm.symm (s1 _ _ bm.symm upd_same)
    have hway : way < 5 := hway
    have ht : t < 16 := ht
    refine ⟨by show 2 ≤ sizeLine; decide, fun pt hpt => ⟨pt, _, rfl, SqT.of upd_same, rfl, _, _, rfl, _, _, rfl, rfl, ?_⟩⟩
    have s4 : Same H2 (upd H2 pt (.tup [.int way, .int t])) := same_upd hpt
    have hB3 := hB2.same s4
    have s5 := s3.trans (Sb.of s4)
    have hM3 := s4 _ _ hM2
    generalize upd H2 pt (.tup [.int way, .int t]) = H3 at s4 hB3 s5 hM3
    refine ⟨_, rfl, rfl, _, rfl, ite2 (fun e => ?_) (fun e0 => ?_)⟩
    · -- words of the menu
      refine ⟨_, rfl, _, rfl, _, rfl, m, _, rfl, SqL.of hM3, fun l1 h1 => ?_⟩
      rw [cut_from (by rw [List.length_map, menu_len]; omega)]
      have r1 : Same H3 (upd H3 l1 (.lst ((menuS.map V.str).drop t))) := same_upd h1
      refine ⟨_, rfl, _, rfl, _, rfl, m, _, rfl, SqL.of (r1 _ _ hM3), fun l2 h2 => ?_⟩
      rw [cut_to (by rw [List.length_map, menu_len]; omega)]
      have r2 : Same (upd H3 l1 (.lst ((menuS.map V.str).drop t))) (upd (upd H3 l1 (.lst ((menuS.map V.str).drop t))) l2 (.lst ((menuS.map V.str).take t))) := same_upd h2
      refine ⟨l1, l2, _, _, rfl, rfl, r2 _ _ upd_same, upd_same, ?_, fun l3 h3 => ?_⟩
      · rw [List.length_drop, List.length_take, List.length_map, menu_len]
        exact Nat.le_trans (show _ ≤ 32 by omega) (by decide)
      rw [show (menuS.map V.str).drop t ++ (menuS.map V.str).take t = (menuS.drop t ++ menuS.take t).map V.str by rw [List.map_append, List.map_drop, List.map_take]]
      have r3 := r2.trans (same_upd h3 (o := .lst ((menuS.drop t ++ menuS.take t).map V.str)))
      refine ⟨_, rfl, _, rfl, l3, _, rfl, SqL.of upd_same, fun l4 h4 => ?_⟩
      rw [cut_map V.str _ n]
      have r4 := r3.trans (same_upd h4 (o := .lst (((menuS.drop t ++ menuS.take t).take n).map V.str)))
      have len : ((menuS.drop t ++ menuS.take t).take n).length ≤ 6 := by
        rw [List.length_take]
        omega
      have ndm := (List.take_sublist n _).nodup (rot_nd t ht)
      refine ⟨l4, _, rfl, SqL.of upd_same, by omega, fun zs l5 pz sz h5 => ?_⟩
      have r5 := r4.trans (same_upd h5 (o := .lst (zs.map V.str)))
      refine ⟨l5, _, rfl, .inl ⟨SqL.of upd_same, fun p hp => ?_⟩⟩
      have r6 := r1.trans (r5.trans (same_upd hp (o := .tup (zs.map V.str))))
      have zl : zs.length ≤ 6 := by
        rw [pz.length_eq]
        exact len
      exact q _ p zs (s5.trans (Sb.of r6)) (hB3.same r6) ⟨upd_same, by omega⟩ ⟨srt_of pz sz ndm, fun x hx => rot_ok t ht x ((List.take_sublist n _).subset (pz.mem_iff.mp hx))⟩ zl
    refine ⟨_, rfl, rfl, _, rfl, ite2 (fun e => ?_) (fun e1 => ?_)⟩
    · -- a, aa, aaa
      refine ⟨_, rfl, (n : Int), rfl, by omega, by omega, fun D hD => ?_⟩
      rw [Int.toNat_natCast]
      refine lc_same (w := walk_range (lo := 0) (n := n)) (List.range n) (fun i => V.int (0 + (i : Int))) (fun _ => true) (fun k => .str (aas (k + 1))) List.length_range.symm (fun i H3 x H4 hi y => ⟨y.1, i, by rw [List.getElem?_range hi], y.2⟩) hD (fun _ _ => True.intro)
        (by rw [List.length_range]; exact Nat.lt_of_lt_of_le h7 (by decide)) (fun i hi H4 s6 C N cc nn => ?_) fun H4 s6 hd => ?_
      · refine ⟨rfl, _, rfl, _, _, rfl, rfl, _, rfl, _, rfl, by decide +kernel, ?_⟩
        have z := cc rfl H4 (Same.refl _)
        rw [show (0 : Int) + (i : Int) + 1 = ((i + 1 : Nat) : Int) by omega]
        exact z
      · rw [List.filter_eq_self.mpr (fun _ _ => rfl)] at hd
        rw [show ((List.range n).map fun k => V.str (aas (k + 1))) = ((List.range n).map fun k => aas (k + 1)).map V.str by rw [List.map_map]; rfl] at hd
        have gd := aas_good n h7
        have ln : ((List.range n).map fun k => aas (k + 1)).length = n := by rw [List.length_map, List.length_range]
        refine ⟨D, _, rfl, .inl ⟨SqL.of hd, fun p hp => ?_⟩⟩
        have r6 := s6.trans (same_upd hp (o := .tup (((List.range n).map fun k => aas (k + 1)).map V.str)))
        exact q _ p _ (s5.trans (Sb.of r6)) (hB3.same r6) ⟨upd_same, by omega⟩ gd (by omega)
    -- a stem and a letter
    have w2 : 2 ≤ way := by
      have n0 : way ≠ 0 := fun z => by
        subst z
        exact e0 (by decide)
      have n1 : way ≠ 1 := fun z => by
        subst z
        exact e1 (by decide)
      omega
    have sl : lets.length ≤ sizeLine := by decide +kernel
    refine ⟨_, rfl, _, rfl, lets, t, _, rfl, rfl, sl, sgn_at (by omega), ?_⟩
    refine ⟨by show 4 ≤ sizeLine; decide, fun l1 h1 => ?_⟩
    have r1 : Same H3 (upd H3 l1 (.lst [.str "", .str "", .str (sgn t), .str "zzzzzzz"])) := same_upd h1
    refine ⟨_, rfl, _, _, rfl, rfl, l1, _, _, V.str (stm way t), rfl, rfl, SqL.of upd_same, ?_, ?_⟩
    · show atI [V.str "", V.str "", V.str (sgn t), V.str "zzzzzzz"] ((way : Int) - 1) = some (V.str (stm way t))
      rcases (show way = 2 ∨ way = 3 ∨ way = 4 by omega) with e | e | e
      · subst e
        exact atI_nat (j := 1) rfl
      · subst e
        exact atI_nat (j := 2) rfl
      · subst e
        exact atI_nat (j := 3) rfl
    refine ⟨_, rfl, (n : Int), rfl, by omega, by omega, fun D hD => ?_⟩
    rw [Int.toNat_natCast]
    refine lc_same (w := walk_range (lo := 0) (n := n)) (List.range n) (fun i => V.int (0 + (i : Int))) (fun _ => true) (fun k => .str (stm way t ++ sgn ((t + 3 * k) % 26))) List.length_range.symm (fun i H3 x H4 hi y => ⟨y.1, i, by rw [List.getElem?_range hi], y.2⟩) hD (fun _ _ => True.intro)
      (by rw [List.length_range]; exact Nat.lt_of_lt_of_le h7 (by decide)) (fun i hi H4 s6 C N cc nn => ?_) fun H4 s6 hd => ?_
    · refine ⟨rfl, _, rfl, _, rfl, _, rfl, _, rfl, _, _, rfl, rfl, .inl (by decide), _, _, rfl, rfl, .inl ⟨_, rfl, _, _, rfl, rfl, (show (0 : Int) < 26 by decide), lets, _, lets.cps.toList.getD ((t + 3 * i) % 26) 0, rfl, rfl, sl, ?_, stm way t, sgn ((t + 3 * i) % 26), rfl, rfl, ?_, cc rfl H4 (Same.refl _)⟩⟩
      · rw [show ((t : Int) + 3 * (0 + (i : Int))) % 26 = (((t + 3 * i) % 26 : Nat) : Int) by omega]
        exact sgn_at (Nat.mod_lt _ (by decide))
      · have z := stm_len (way := way) (t := t)
        exact Nat.le_trans (Nat.add_le_add z (Nat.le_refl 1)) (by decide)
    · rw [List.filter_eq_self.mpr (fun _ _ => rfl)] at hd
      rw [show ((List.range n).map fun k => V.str (stm way t ++ sgn ((t + 3 * k) % 26))) = (its way t n).map V.str by unfold its; rw [List.map_map]; rfl] at hd
      have ln : (its way t n).length = n := by
        unfold its
        rw [List.length_map, List.length_range]
      refine ⟨D, _, rfl, SqL.of hd, by omega, fun zs l5 pz sz h5 => ?_⟩
      have r5 := s6.trans (same_upd h5 (o := .lst (zs.map V.str)))
      refine ⟨l5, _, rfl, .inl ⟨SqL.of upd_same, fun p hp => ?_⟩⟩
      have r6 := r1.trans (r5.trans (same_upd hp (o := .tup (zs.map V.str))))
      have zl : zs.length = n := by
        rw [pz.length_eq]
        exact ln
      exact q _ p zs (s5.trans (Sb.of r6)) (hB3.same r6) ⟨upd_same, by omega⟩ ⟨srt_of pz sz (its_nd h7 ht hway w2), fun x hx => its_ok h7 ht hway w2 x (pz.mem_iff.mp hx)⟩ (by omega)
end
end K16
/-! K16Rule: a rule drawn, some rows drawn. -/
namespace K16
open PySem PySem.Spec PyProof.Rows L2
section
variable {P : Program} {w : World} {K : PySem.W.Frag} {mg : PySem.Str → Option Value} {base : Heap}
theorem nat_at (l : List Nat) {i : Nat} (h : i < l.length) : ∃ k : Nat, (l.map fun k : Nat => V.int k)[i]? = some (.int k) := by
  rw [List.getElem?_map, List.getElem?_eq_getElem h]
  exact ⟨_, rfl⟩
def spRule : Sp := fun vs H Q _ => ∃ (b c a : Addr) (M : Lot), vs = [.ref b, .ref a] ∧ BagAt c H b ∧ LotAt H a M ∧ Srt M ∧ ∀ (H' : Hp) (p : Addr) (x : Row), Sb b H H' → BagAt c H' b → RowAt H' p x → RowOk M x → Q (.ref p) H'
theorem ok_rule (A : At K mg "_law_rule" sRule ["_law_bag_here", "_law_marks_here"]) (G : Dn P w K mg base 1 "_law_take" spTake) (GL : Dn P w K mg base 2 "_law_lot" spLot) (GF : Dn P w K mg base 3 "_law_few" spFew) : Dn P w K mg base 4 "_law_rule" spRule := by
  obtain ⟨f, fd, F, hm, hb⟩ := A.ex
  refine ⟨f, fd, _, F.ok scRule (fun vs H Q E h => ?_) (fun cdv A outer s H vs Q E hr h => ?_), hm, F.kp, hb⟩
  · obtain ⟨b, c, a, M, rfl, _⟩ := h
    rfl
  · obtain ⟨b, c, a, M, rfl, hB, hM, sM, q⟩ := h
    have nd := scRule.nd
    refine ⟨_, pss_cons (ps_set (i := 2) nd rfl (Or.inl rfl) (pe_d G hr (by rfl) (pa_cons (pv 0) (pa_cons pe_int pa_nil))))
      (pss_cons (ps_if (pt_cmpR op_eq (pv 2) pe_int (nomark _)) (pss_one (ps_ret (pe_tup (pa_cons (pe_d GL hr (by rfl) (pa_cons (pv 0) (pa_cons (pv 1) pa_nil))) (pa_cons (pe_d GL hr (by rfl) (pa_cons (pv 0) (pa_cons (pv 1) pa_nil))) pa_nil))))) pss_nil)
      (pss_cons (ps_set (i := 3) nd rfl (Or.inl rfl) (pe_d GF hr (by rfl) (pa_cons (pv 0) (pa_cons (pv 1) (pa_cons (pe_ix ix_list (pe_lst (pa_cons pe_int (pa_cons pe_int (pa_cons pe_int (pa_cons pe_int (pa_cons pe_int (pa_cons pe_int (pa_cons pe_int (pa_cons pe_int (pa_cons pe_int (pa_cons pe_int pa_nil)))))))))))
          (pv 2) (fun _ _ => rfl)) pa_nil)))))
      (pss_cons (ps_if (pt_cmpR op_eq (pv 2) pe_int (nomark _)) (pss_one (ps_ret (pe_tup (pa_cons (pv 3) (pa_cons (pv 3) pa_nil))))) pss_nil)
      (pss_one (ps_ret (pe_tup (pa_cons (pv 3) (pa_cons (pe_d GF hr (by rfl) (pa_cons (pv 0) (pa_cons (pv 1) (pa_cons (pe_ix ix_list (pe_lst (pa_cons pe_int (pa_cons pe_int (pa_cons pe_int (pa_cons pe_int (pa_cons pe_int (pa_cons pe_int (pa_cons pe_int (pa_cons pe_int pa_nil)))))))))
          (pv 2) (fun _ _ => rfl)) pa_nil)))) pa_nil)))))))), ?_⟩
    refine ⟨_, rfl, b, c, _, rfl, hB, by decide, by decide, fun H1 way s1 hB1 hway => ?_⟩
    have hway : way < 10 := hway
    have hM1 := bag_lot hB s1 hM
    refine ⟨_, rfl, rfl, _, rfl, ite2 (fun e => ?_) (fun e8 => ?_)⟩
    · refine ⟨_, rfl, _, rfl, b, c, a, M, rfl, hB1, hM1, fun H2 p1 y1 s2 hB2 h1 sub1 => ⟨_, rfl, _, rfl, b, c, a, M, rfl, hB2, bag_lot hB1 s2 hM1, fun H3 p2 y2 s3 hB3 h2 sub2 => ?_⟩⟩
      refine ⟨by show 2 ≤ sizeLine; decide, fun p hp => ?_⟩
      have s4 : Same H3 (upd H3 p (.tup [.ref p1, .ref p2])) := same_upd hp
      exact q _ p (y1, y2) (((s1.trans s2).trans s3).trans (Sb.of s4)) (hB3.same s4) ⟨p1, p2, upd_same, (bag_lot hB2 s3 h1).same s4, h2.same s4⟩ ⟨srt_sub sM sub1, srt_sub sM sub2, fun x hx => sub1.subset hx, fun x hx => sub2.subset hx⟩
    refine ⟨_, rfl, _, rfl, by show 10 ≤ sizeLine; decide, fun l1 h1 => ?_⟩
    have s2 : Same H1 _ := same_upd h1 (o := .lst ([0, 1, 1, 2, 2, 2, 3, 2, 0, 1].map fun k : Nat => V.int k))
    obtain ⟨k, hk⟩ := nat_at [0, 1, 1, 2, 2, 2, 3, 2, 0, 1] (i := way) hway
    refine ⟨_, rfl, l1, _, _, .int k, rfl, rfl, SqL.of upd_same, atI_nat hk, b, c, a, M, k, rfl, hB1.same s2, hM1.same s2, sM, fun H3 p1 y1 s3 hB3 g1 sy1 my1 => ?_⟩
    have t3 := (s1.trans (Sb.of s2)).trans s3
    have hM3 := bag_lot hB t3 hM
    refine ⟨_, rfl, rfl, _, rfl, ite2 (fun e => ?_) (fun e9 => ?_)⟩
    · refine ⟨_, rfl, _, rfl, by show 2 ≤ sizeLine; decide, fun p hp => ?_⟩
      have s4 : Same H3 (upd H3 p (.tup [.ref p1, .ref p1])) := same_upd hp
      exact q _ p (y1, y1) (t3.trans (Sb.of s4)) (hB3.same s4) ⟨p1, p1, upd_same, g1.same s4, g1.same s4⟩ ⟨sy1, sy1, my1, my1⟩
    have w8 : way < 8 := by
      have n8 : way ≠ 8 := fun z => by
        subst z
        exact e8 (by decide)
      have n9 : way ≠ 9 := fun z => by
        subst z
        exact e9 (by decide)
      omega
    refine ⟨_, rfl, _, rfl, _, rfl, by show 8 ≤ sizeLine; decide, fun l2 h2 => ?_⟩
    have s4 : Same H3 _ := same_upd h2 (o := .lst ([1, 1, 2, 1, 2, 1, 1, 3].map fun k : Nat => V.int k))
    obtain ⟨k2, hk2⟩ := nat_at [1, 1, 2, 1, 2, 1, 1, 3] (i := way) w8
    refine ⟨_, rfl, l2, _, _, .int k2, rfl, rfl, SqL.of upd_same, atI_nat hk2, b, c, a, M, k2, rfl, hB3.same s4, hM3.same s4, sM, fun H5 p2 y2 s5 hB5 g2 sy2 my2 => ?_⟩
    refine ⟨by show 2 ≤ sizeLine; decide, fun p hp => ?_⟩
    have s6 : Same H5 (upd H5 p (.tup [.ref p1, .ref p2])) := same_upd hp
    exact q _ p (y1, y2) (((t3.trans (Sb.of s4)).trans s5).trans (Sb.of s6)) (hB5.same s6) ⟨p1, p2, upd_same, (bag_lot (hB3.same s4) s5 (g1.same s4)).same s6, g2.same s6⟩ ⟨sy1, sy2, my1, my2⟩
/-! ### some rows -/
def spSome : Sp := fun vs H Q _ => ∃ (b c a : Addr) (M : Lot) (n : Nat), vs = [.ref b, .ref a, .int n] ∧ BagAt c H b ∧ LotAt H a M ∧ Srt M ∧ n ≤ 50 ∧
  ∀ (H' : Hp) (l : Addr) (rs : List (Addr × Row)), Sb b H H' → BagAt c H' b → H' l = some (.lst (rrefs rs)) → RowsAt H' rs → (∀ r ∈ rs, RowOk M r.2) → rs.length ≤ n → Q (.ref l) H'
theorem ok_some (A : At K mg "_law_some_rows" sSomeRows ["_law_bag_here", "_law_marks_here", "_law_many"]) (B : Blt mg) (G : Dn P w K mg base 1 "_law_take" spTake) (GR : Dn P w K mg base 4 "_law_rule" spRule) : Dn P w K mg base 5 "_law_some_rows" spSome := by
  obtain ⟨f, fd, F, hm, hb⟩ := A.ex
  refine ⟨f, fd, _, F.ok scSomeRows (fun vs H Q E h => ?_) (fun cdv A outer s H vs Q E hr h => ?_), hm, F.kp, hb⟩
  · obtain ⟨b, c, a, M, n, rfl, _⟩ := h
    rfl
  · obtain ⟨b, c, a, M, n, rfl, hB, hM, sM, hn, q⟩ := h
    have nd := scSomeRows.nd
    refine ⟨_, pss_cons (ps_setLc (i := 3) (own := [("_law_k", 4)]) (g := gName 4) (tt := tYes) (te := tCall spRule [] E0 (tCons (tVar 0) (tCons (tVar 1) tNil))) rfl nd rfl rfl (sw_true rfl rfl rfl (by decide +kernel))
        (pi_range1 rfl B.range (pa_cons (pe_d G hr (by rfl) (pa_cons (pv 0) (pa_cons (pe_op op_add (pv 2) pe_int) pa_nil))) pa_nil))
        (blkOk_by (own := [("_law_k", 4)]) (N := ["_law_bag_here", "_law_marks_here", "_law_many", "_law_found", "_law_k"]) (sc := defScope sSomeRows) (by decide +kernel))
        (fun _ _ _ _ _ => pg_name (i := 4) nd rfl (Or.inl rfl)) (fun _ _ _ _ _ => pts_nil) (fun _ _ _ _ _ => pe_d GR hr (by rfl) (pa_cons (pv 0) (pa_cons (pv 1) pa_nil))))
      (C8.pss_cut (ps_if (PW.pt (pw_and (pt_cmpR op_gt (pe_callB call_len_seq (by rfl) B.len PySem.boot_len (pa_cons (pv 3) pa_nil)) pe_int (nomark _))
          (pw_and1 (pt_cmpR op_eq (pe_d G hr (by rfl) (pa_cons (pv 0) (pa_cons pe_int pa_nil))) pe_int (nomark _)))))
        (pss_one (ps_asg (pe_ix ix_list (pv 3) pe_int (fun _ _ => rfl)) (pg_sub (pv 3) (pe_un un_neg pe_int) set_list))) pss_nil)
      (pss_one (ps_ret (pv 3)))), ?_⟩
    refine ⟨_, rfl, _, rfl, _, _, rfl, rfl, b, c, _, rfl, hB, by omega, by omega, fun H1 m s1 hB1 hm1 => ⟨(m : Int), rfl, ?_, ?_, fun D hD => ?_⟩⟩
    · omega
    · omega
    have mn : m ≤ n := by omega
    rw [Int.toNat_natCast]
    have bD := bag_new hB1 hD
    have cD := bag_cell hB1 hD
    have hM1 := bag_lot hB s1 hM
    refine lc_it (walk_range (lo := 0) (n := m)) (fun i H' => ∃ rs : List (Addr × Row), Sb b H1 H' ∧ BagAt c H' b ∧ H' D = some (.lst (rrefs rs)) ∧ RowsAt H' rs ∧ (∀ r ∈ rs, RowOk M r.2) ∧ rs.length = i)
      ⟨[], Sb.of (same_upd hD), hB1.upd bD cD, upd_same, fun r hr' => absurd hr' List.not_mem_nil, fun r hr' => absurd hr' List.not_mem_nil, rfl⟩ (fun _ _ _ _ => True.intro) (fun i x H2 H3 hi h y => ?_) fun H2 h => ?_
    · obtain ⟨e0, y⟩ := y
      subst e0
      obtain ⟨rs, s2, hB2, h2, hR, ok, hl⟩ := h
      refine ⟨rfl, ?_⟩
      refine ⟨_, rfl, _, rfl, b, c, a, M, rfl, hB2, bag_lot hB1 s2 hM1, sM, fun H4 p x s3 hB4 hp okx => ?_⟩
      have h4 : H4 D = some (.lst (rrefs rs)) := s3 _ _ bD.symm h2
      refine ⟨_, h4, ?_, rs ++ [(p, x)], sb_new (s2.trans s3) hD, hB4.upd bD cD, ?_, fun r hr' => ?_, fun r hr' => ?_, ?_⟩
      · rw [List.length_map]
        exact Nat.lt_of_lt_of_le (show rs.length < 51 by omega) (by decide)
      · rw [upd_same]
        show some (HO.lst (rrefs rs ++ [.ref p])) = some (HO.lst ((rs ++ [(p, x)]).map fun r => V.ref r.1))
        rw [List.map_append]
        rfl
      · rcases List.mem_append.mp hr' with z | z
        · exact (bag_rows hB2 s3 hR r z).sb h4 sb_upd
        · rw [List.mem_singleton.mp z]
          exact hp.sb h4 sb_upd
      · rcases List.mem_append.mp hr' with z | z
        · exact ok r z
        · rw [List.mem_singleton.mp z]
          exact okx
      · rw [List.length_append, List.length_singleton, hl]
    · obtain ⟨rs, s2, hB2, h2, hR, ok, hl⟩ := h
      refine ⟨fun σ' H' => σ' = [some (.ref b), some (.ref a), some (.int n), some (.ref D), none] ∧ ∃ rs : List (Addr × Row), Sb b H H' ∧ BagAt c H' b ∧ H' D = some (.lst (rrefs rs)) ∧ RowsAt H' rs ∧ (∀ r ∈ rs, RowOk M r.2) ∧ rs.length ≤ n, ?_, ?_⟩
      · refine ⟨_, rfl, D, _, rfl, .inl (SqL.of h2), _, _, rfl, rfl, _, rfl, ?_⟩
        rw [List.length_map]
        refine ite2 (fun e => ?_) (fun e => ⟨rfl, rs, s1.trans s2, hB2, h2, hR, ok, by omega⟩)
        have l2 : 1 < rs.length := by
          have z : (1 : Int) < (rs.length : Int) := of_decide_eq_true e
          omega
        refine ⟨_, rfl, b, c, _, rfl, hB2, by decide, by decide, fun H3 t s3 hB3 ht => ⟨rfl, _, rfl, ?_⟩⟩
        have h3 : H3 D = some (.lst (rrefs rs)) := s3 _ _ bD.symm h2
        have hR3 := bag_rows hB2 s3 hR
        refine ite2 (fun e => ?_) (fun e => ⟨rfl, rs, (s1.trans s2).trans s3, hB3, h3, hR3, ok, by omega⟩)
        refine ⟨_, rfl, D, _, _, V.ref rs[0].1, rfl, rfl, SqL.of h3, atI_nat (j := 0) ?_, _, rfl, _, rfl, D, _, -1, rs.length - 1, rfl, rfl, h3, ?_, rfl, rs.set (rs.length - 1) rs[0], ?_, hB3.upd bD cD, ?_, fun r hr' => ?_, fun r hr' => ?_, ?_⟩
        · rw [List.getElem?_map, List.getElem?_eq_getElem (by omega)]
          rfl
        · rw [List.length_map]
          unfold ixN
          rw [if_neg (by decide), if_pos (by omega)]
          congr 1
          omega
        · have z : Sb b H1 H3 := s2.trans s3
          exact s1.trans (sb_new z hD)
        · rw [upd_same]
          show some (HO.lst ((rs.map fun r => V.ref r.1).set (rs.length - 1) (V.ref rs[0].1))) = some (HO.lst ((rs.set (rs.length - 1) rs[0]).map fun r => V.ref r.1))
          rw [List.map_set]
        · rcases List.mem_or_eq_of_mem_set hr' with z | z
          · exact (hR3 r z).sb h3 sb_upd
          · rw [z]
            exact (hR3 _ (List.getElem_mem _)).sb h3 sb_upd
        · rcases List.mem_or_eq_of_mem_set hr' with z | z
          · exact ok r z
          · rw [z]
            exact ok _ (List.getElem_mem _)
        · rw [List.length_set]
          omega
      · rintro σ' H' ⟨rfl, rs', k1, k2, k3, k4, k5, k6⟩
        exact ⟨_, rfl, q H' D rs' k1 k2 k3 k4 k5 k6⟩
end
end K16
/-! K16Pair: the law's two questions. -/
namespace K16
open PySem PySem.Spec PyProof.Rows L2
section
variable {P : Program} {w : World} {K : PySem.W.Frag} {mg : PySem.Str → Option Value} {base : Heap} {C : Addr}
theorem fnr_of {k : Nat} {f : Addr} {fd : FuncData} {ps : List PySem.Str} {sp : Sp} (F : FnOk P w K mg base CX0 k f fd ps sp) (hb : Binds K fd ps []) : FnR P w K mg base CX0 k f sp := (F.raw hb .nil).imp fun vs H Q E h => by
  rw [List.append_nil]
  exact h
/-- what Python's own forms call of the class -/
structure Sps (P : Program) (w : World) (K : PySem.W.Frag) (mg : PySem.Str → Option Value) (base : Heap) (C : Addr) : Prop where
  call : ∃ g, StX.CallO K C g ∧ FnR P w K mg base CX0 5 g (spClosing C)
  has : ∃ g, PySem.W.findIn K (.ref C) "__contains__" = some (some (.ref g)) ∧ PySem.W.isFn K (.ref g) = true ∧ FnR P w K mg base CX0 4 g (spContains C)
  add : ∃ g, AddO K C g ∧ FnR P w K mg base CX0 8 g (spAdd C)
  len : ∃ g, PySem.W.findIn K (.ref C) "__len__" = some (some (.ref g)) ∧ PySem.W.isFn K (.ref g) = true ∧ FnR P w K mg base CX0 1 g (spLen C)
theorem Sps.of (c : Md P w K mg base 5 C "__call__" (spClosing C)) (h : Md P w K mg base 4 C "__contains__" (spContains C)) (a : Md P w K mg base 8 C "__add__" (spAdd C)) (l : Md P w K mg base 1 C "__len__" (spLen C))
    (co : ∃ g, StX.CallO K C g) (ao : ∃ g, AddO K C g) : Sps P w K mg base C := by
  refine ⟨?_, ?_, ?_, ?_⟩
  · obtain ⟨g, CO⟩ := co
    obtain ⟨f, fd, ps, hm, F, hb⟩ := c.ex
    have e : f = g := by
      have z := hm.at_.symm.trans CO.at_
      injection z with z
      injection z with z
      injection z
    subst e
    exact ⟨f, CO, fnr_of F hb⟩
  · obtain ⟨f, fd, ps, hm, F, hb⟩ := h.ex
    exact ⟨f, hm.at_, hm.fn, fnr_of F hb⟩
  · obtain ⟨g, AO⟩ := ao
    obtain ⟨f, fd, ps, hm, F, hb⟩ := a.ex
    have e : f = g := by
      have z := hm.at_.symm.trans AO.at_
      injection z with z
      injection z with z
      injection z
    subst e
    exact ⟨f, AO, fnr_of F hb⟩
  · obtain ⟨f, fd, ps, hm, F, hb⟩ := l.ex
    exact ⟨f, hm.at_, hm.fn, fnr_of F hb⟩
/-! ### two lots -/
def spPair (C : Addr) : Sp := fun vs H Q _ => ∃ (p a b : Addr) (M : Lot) (rs : List (Addr × Row)) (xs ys : Lot), vs = [.ref p, .ref a, .ref b] ∧ RulesAt C H p M rs ∧ Fit M rs ∧ LotAt H a xs ∧ LotAt H b ys ∧ Srt xs ∧ Srt ys ∧ (∀ x ∈ xs, x ∈ M) ∧ (∀ x ∈ ys, x ∈ M) ∧
  ∀ H', Same H H' → Q (.bl true) H'
theorem Fit.in_ {M : Lot} {rs : List (Addr × Row)} (ft : Fit M rs) {xs zs : Lot} (cl : IsCl (rowsOf rs) xs zs) (m : ∀ x ∈ xs, x ∈ M) : ∀ x ∈ zs, x ∈ M := cl.inMarks m fun r hr => by
  obtain ⟨b, hb, rfl⟩ := List.mem_map.mp hr
  exact (ft.rows b hb).2.2.2
theorem ok_pair (A : At K mg "_law_pair_right" sPairRight ["_law_rules", "_law_one_here", "_law_other"]) (S : Sps P w K mg base C) (GW : Dn P w K mg base 1 "within" spWithin) (GJ : Dn P w K mg base 2 "joined" spJoined) (GC : Dn P w K mg base 1 "common" spCommon) :
    Dn P w K mg base 6 "_law_pair_right" (spPair C) := by
  obtain ⟨f, fd, F, hm, hb⟩ := A.ex
  obtain ⟨gc, CO, FC⟩ := S.call
  obtain ⟨gh, hs, hf, FH⟩ := S.has
  refine ⟨f, fd, _, F.ok scPairRight (fun vs H Q E h => ?_) (fun cdv A outer s H vs Q E hr h => ?_), hm, F.kp, hb⟩
  · obtain ⟨p, a, b, M, rs, xs, ys, rfl, _⟩ := h
    rfl
  · obtain ⟨p, a, b, M, rs, xs, ys, rfl, hp, ft, ha, hb', sx, sy, mx, my, q⟩ := h
    have nd := scPairRight.nd
    refine ⟨_, pss_cons (ps_par (i := 3) (j := 4) (by rfl) nd rfl rfl (by decide) rfl rfl (pa_cons (StX.pe_callO (pv 0) CO FC hr pass0 (pa_cons (pv 1) pa_nil)) (pa_cons (StX.pe_callO (pv 0) CO FC hr pass0 (pa_cons (pv 2) pa_nil)) pa_nil)) (by rfl))
      (C8.pss_cut (ps_if (PW.pt (pw_and (pt_val (pe_d GW hr (by rfl) (pa_cons (pv 1) (pa_cons (pv 2) pa_nil)))) (pw_and1 (pt_not (pt_val (pe_d GW hr (by rfl) (pa_cons (pv 3) (pa_cons (pv 4) pa_nil)))))))) (pss_one ps_never) pss_nil)
      (pss_cons (ps_if (pt_cmpR (op_neD (hu64 hr)) (StX.pe_callO (pv 0) CO FC hr pass0 (pa_cons (pe_d GJ hr (by rfl) (pa_cons (pv 1) (pa_cons (pv 2) pa_nil))) pa_nil))
          (StX.pe_callO (pv 0) CO FC hr pass0 (pa_cons (pe_d GJ hr (by rfl) (pa_cons (pv 3) (pa_cons (pv 4) pa_nil))) pa_nil)) (nomark _)) (pss_one ps_never) pss_nil)
      (pss_one (ps_ret (pe_and (pe_cmpR (op_ownIn hs hf FH (hr.mono (by decide)) pass0) (pe_d GC hr (by rfl) (pa_cons (pv 3) (pa_cons (pv 4) pa_nil))) (pv 0) rfl)
        (pe_one (pe_d GW hr (by rfl) (pa_cons (pv 3) (pa_cons (StX.pe_callO (pv 0) CO FC hr pass0 (pa_cons (pe_d GJ hr (by rfl) (pa_cons (pv 1) (pa_cons (pv 2) pa_nil))) pa_nil)) pa_nil))))))))), ?_⟩
    obtain ⟨dx, l, m, h1, h2, h3, h4⟩ := id hp
    refine ⟨_, rfl, p, rfl, _, rfl, .inr ⟨dx, _, h1⟩, p, a, M, rs, xs, rfl, hp, ft, ha, sx, mx, fun H1 p1 as s1 g1 cl1 => ?_⟩
    refine ⟨_, rfl, p, rfl, _, rfl, .inr ⟨dx, _, s1 _ _ h1⟩, p, b, M, rs, ys, rfl, hp.same s1, ft, hb'.same s1, sy, my, fun H2 p2 bs s2 g2 cl2 => ⟨_, _, rfl, ?_⟩⟩
    have t2 := s1.trans s2
    have m1 := ft.in_ cl1 mx
    have m2 := ft.in_ cl2 my
    refine ⟨fun σ' H' => σ' = [some (.ref p), some (.ref a), some (.ref b), some (.ref p1), some (.ref p2)] ∧ Same H2 H', ?_, ?_⟩
    · refine ⟨_, rfl, _, rfl, a, b, xs, ys, rfl, ha.same t2, hb'.same t2, fun H3 s3 => ⟨_, rfl, ?_⟩⟩
      refine ite2 (fun e => ?_) (fun e => iteF ⟨rfl, s3⟩)
      refine ⟨_, rfl, _, rfl, p1, p2, as, bs, rfl, (g1.same s2).same s3, g2.same s3, fun H4 s4 => ⟨_, rfl, ?_⟩⟩
      rw [wi_iff.mpr (cl1.mono cl2 (wi_iff.mp e))]
      exact iteF ⟨rfl, s3.trans s4⟩
    · rintro σ' H3 ⟨rfl, s3⟩
      have t3 := t2.trans s3
      -- the closings of the joined ones
      refine ⟨_, rfl, p, rfl, _, rfl, _, rfl, a, b, xs, ys, M, rfl, ha.same t3, hb'.same t3, ft.few, mx, my, fun H4 pu us s4 gu su hu => ?_⟩
      have mu : ∀ x ∈ us, x ∈ M := fun x z => ((hu x).mp z).elim (mx x) (my x)
      have t4 := t3.trans s4
      refine ⟨.inr ⟨dx, _, t4 _ _ h1⟩, p, pu, M, rs, us, rfl, hp.same t4, ft, gu, su, mu, fun H5 pc cs s5 gc' clc => ?_⟩
      have t5 := t4.trans s5
      have t25 := (s3.trans s4).trans s5
      refine ⟨_, rfl, p, rfl, _, rfl, _, rfl, p1, p2, as, bs, M, rfl, (g1.same s2).same t25, g2.same t25, ft.few, m1, m2, fun H6 pv' vs' s6 gv sv hv => ?_⟩
      have mv : ∀ x ∈ vs', x ∈ M := fun x z => ((hv x).mp z).elim (m1 x) (m2 x)
      have t6 := t5.trans s6
      refine ⟨.inr ⟨dx, _, t6 _ _ h1⟩, p, pv', M, rs, vs', rfl, hp.same t6, ft, gv, sv, mv, fun H7 pd ds s7 gd cld => ?_⟩
      have t7 := t6.trans s7
      have t27 := (t25.trans s6).trans s7
      have e := IsCl.join cl1 cl2 hu hv clc cld
      have gdc : ∀ x ∈ cs, okM x = true := fun x z => ft.good.2 x (ft.in_ clc mu x z)
      have gdd : ∀ x ∈ ds, okM x = true := fun x z => ft.good.2 x (ft.in_ cld mv x z)
      refine ⟨lotD cs, lotD ds, dp_lot ((gc'.same s6).same s7), dp_lot gd, lot_shaped gdc, lot_shaped gdd, _, rfl, ?_⟩
      rw [eqv_lot, decide_eq_true e]
      refine iteF ?_
      -- what both have is closed
      have g17 := (g1.same s2).same t27
      have g27 := g2.same t27
      refine ⟨_, rfl, _, rfl, p1, p2, as, bs, rfl, g17, g27, fun H8 pk s8 gk => ⟨_, rfl, p, dx, _, rfl, s8 _ _ (t7 _ _ h1), ?_⟩⟩
      have t8 := t7.trans s8
      have sub : (as.filter fun x => decide (x ∈ bs)).Sublist as := List.filter_sublist
      have ck : Closed (rowsOf rs) (as.filter fun x => decide (x ∈ bs)) := closed_common cl1.cl cl2.cl fun x => by
        rw [List.mem_filter, decide_eq_true_iff]
      refine ⟨p, pk, M, rs, as.filter fun x => decide (x ∈ bs), rfl, hp.same t8, ft, gk, (Good.of cl1.srt m1 ft.good).sub sub, fun x z => m1 x (sub.subset z), fun H9 k s9 hk => ⟨k, rfl, ?_⟩⟩
      rw [hk.mpr ck]
      have t9 := t8.trans s9
      refine ⟨_, rfl, iteT ?_⟩
      refine ⟨_, rfl, _, rfl, p, rfl, _, rfl, _, rfl, a, b, xs, ys, M, rfl, ha.same t9, hb'.same t9, ft.few, mx, my, fun H10 pu2 us2 s10 gu2 su2 hu2 => ?_⟩
      have mu2 : ∀ x ∈ us2, x ∈ M := fun x z => ((hu2 x).mp z).elim (mx x) (my x)
      have t10 := t9.trans s10
      refine ⟨.inr ⟨dx, _, t10 _ _ h1⟩, p, pu2, M, rs, us2, rfl, hp.same t10, ft, gu2, su2, mu2, fun H11 pz zs s11 gz clz => ?_⟩
      have t11 := t10.trans s11
      refine ⟨p1, pz, as, zs, rfl, (((g17.same s8).same s9).same s10).same s11, gz, fun H12 s12 => ?_⟩
      rw [wi_iff.mpr (cl1.mono clz fun x z => (hu2 x).mpr (.inl z))]
      exact q H12 (t11.trans s12)
end
end K16
/-! K16More: the law's question with one more row. -/
namespace K16
open PySem PySem.Spec PyProof.Rows L2
section
variable {P : Program} {w : World} {K : PySem.W.Frag} {mg : PySem.Str → Option Value} {base : Heap} {C : Addr}
def spMore (C : Addr) : Sp := fun vs H Q _ => ∃ (b c p a l : Addr) (M : Lot) (rs : List (Addr × Row)) (xs : Lot), vs = [.ref b, .ref p, .ref a, .ref l] ∧ BagAt c H b ∧ RulesAt C H p M rs ∧ Fit M rs ∧ 0 < rs.length ∧ rs.length ≤ 50 ∧ LotAt H a M ∧ LotAt H l xs ∧ Srt xs ∧ (∀ x ∈ xs, x ∈ M) ∧
  ∀ H', Sb b H H' → BagAt c H' b → Q (.bl true) H'
theorem ok_more (T : Cl K mg C) (A : At K mg "_law_more_right" sMoreRight ["_law_bag_here", "_law_rules", "_law_marks_here", "_law_lot_here"]) (B : Blt mg) (S : Sps P w K mg base C) (GW : Dn P w K mg base 1 "within" spWithin) (GR : Dn P w K mg base 4 "_law_rule" spRule)
    (GO : Md P w K mg base 8 C "without" (spWithout C)) (GF : Md P w K mg base 5 C "follows_from" (spFollows C)) : Dn P w K mg base 9 "_law_more_right" (spMore C) := by
  obtain ⟨f, fd, F, hm, hb⟩ := A.ex
  obtain ⟨gc, CO, FC⟩ := S.call
  obtain ⟨ga, AO, FA⟩ := S.add
  obtain ⟨gl, ls, lf, FL⟩ := S.len
  refine ⟨f, fd, _, F.ok scMoreRight (fun vs H Q E h => ?_) (fun cdv A outer s H vs Q E hr h => ?_), hm, F.kp, hb⟩
  · obtain ⟨b, c, p, a, l, M, rs, xs, rfl, _⟩ := h
    rfl
  · obtain ⟨b, c, p, a, l, M, rs, xs, rfl, hB, hp, ft, l0, l50, ha, hl, sx, mx, q⟩ := h
    have nd := scMoreRight.nd
    refine ⟨_, pss_cons (ps_set (i := 4) nd rfl (Or.inl rfl) (pe_d GR hr (by rfl) (pa_cons (pv 0) (pa_cons (pv 2) pa_nil))))
      (pss_cons (ps_set (i := 5) nd rfl (Or.inl rfl) (pe_op (op_ownAdd AO FA (hr.mono (by decide)) pass0) (pv 1) (pv 4)))
      (pss_cons (ps_if (PW.pt (pw_or (pt_not (pt_val (pe_d GW hr (by rfl) (pa_cons (StX.pe_callO (pv 1) CO FC (hr.mono (by decide)) pass0 (pa_cons (pv 3) pa_nil)) (pa_cons (StX.pe_callO (pv 5) CO FC (hr.mono (by decide)) pass0 (pa_cons (pv 3) pa_nil)) pa_nil)))))
          (pw_or1 (pt_cmpR op_isnot_bl (pe_m GF T.cl hr (pe_m GO T.cl hr (pv 1) (pa_cons pe_int pa_nil)) (pa_cons (pv 1) pa_nil)) pe_bl (nomark _))))) (pss_one ps_never) pss_nil)
      (pss_cons (ps_if (PW.pt (pw_or (pt_cmpR op_isnot_bl (pe_m GF T.cl hr (pv 1) (pa_cons (pv 5) pa_nil)) pe_bl (nomark _))
          (pw_or1 (pt_cmpR op_ne (pe_m GF T.cl hr (pv 5) (pa_cons (pv 1) pa_nil)) (pe_d GW hr (by rfl) (pa_cons (pe_ix ix_tup (pv 4) pe_int (fun _ _ => rfl))
            (pa_cons (StX.pe_callO (pv 1) CO FC (hr.mono (by decide)) pass0 (pa_cons (pe_ix ix_tup (pv 4) pe_int (fun _ _ => rfl)) pa_nil)) pa_nil))) (nomark _))))) (pss_one ps_never) pss_nil)
      (pss_one (ps_ret (pe_d GW hr (by rfl) (pa_cons (StX.pe_callO (pe_m GO T.cl hr (pv 1) (pa_cons (pe_op op_sub (pe_callB (cr_ownLen ls lf FL (hr.mono (by decide)) pass0) (by rfl) B.len PySem.boot_len (pa_cons (pv 1) pa_nil)) pe_int) pa_nil)) CO FC (hr.mono (by decide)) pass0 (pa_cons (pv 3) pa_nil))
        (pa_cons (StX.pe_callO (pv 1) CO FC (hr.mono (by decide)) pass0 (pa_cons (pv 3) pa_nil)) pa_nil)))))))), ?_⟩
    refine ⟨_, rfl, _, rfl, b, c, a, M, rfl, hB, ha, ft.good.1, fun H1 r x s1 hB1 hR okx => ?_⟩
    have hp1 := bag_rules hB s1 hp
    have hl1 := bag_lot hB s1 hl
    obtain ⟨dx, lr, mr, h1, h2, h3, h4⟩ := id hp1
    obtain ⟨ra, rb, k1, k2, k3⟩ := id hR
    refine ⟨_, rfl, _, rfl, p, dx, _, r, _, rfl, rfl, h1, k1, p, r, M, rs, x, rfl, hp1, ft, by omega, hR, okx, fun H2 wd s2 hw => ?_⟩
    have ft2 : Fit M (rs ++ [(r, x)]) := ft.add okx (by omega)
    have row2 : rowsOf (rs ++ [(r, x)]) = rowsOf rs ++ [x] := by
      show (rs ++ [(r, x)]).map Prod.snd = rs.map Prod.snd ++ [x]
      rw [List.map_append]
      rfl
    obtain ⟨dw, lw, mw, w1, w2, w3, w4⟩ := id hw
    -- one row more
    refine ⟨_, rfl, p, rfl, _, rfl, .inr ⟨dx, _, s2 _ _ h1⟩, p, l, M, rs, xs, rfl, hp1.same s2, ft, hl1.same s2, sx, mx, fun H3 q1 z1 s3 g1 cl1 => ?_⟩
    refine ⟨_, rfl, wd, rfl, _, rfl, .inr ⟨dw, _, s3 _ _ w1⟩, wd, l, M, rs ++ [(r, x)], xs, rfl, hw.same s3, ft2, (hl1.same s2).same s3, sx, mx, fun H4 q2 z2 s4 g2 cl2 => ?_⟩
    have t24 := s3.trans s4
    rw [row2] at cl2
    refine ⟨q1, q2, z1, z2, rfl, g1.same s4, g2, fun H5 s5 => ⟨_, rfl, ?_⟩⟩
    rw [wi_iff.mpr (cl1.more cl2 fun y hy => List.mem_append_left _ hy)]
    have t25 := t24.trans s5
    have t15 := s2.trans t25
    -- the first row left out
    refine iteF ⟨_, rfl, p, dx, _, rfl, t15 _ _ h1, flds_no mr lr (by decide +kernel) (by decide +kernel), p, M, rs, 0, rfl, hp1.same t15, ft, l0, fun H6 pw s6 hw6 => ?_⟩
    obtain ⟨d6, l6, m6, e1, e2, e3, e4⟩ := id hw6
    have t16 := t15.trans s6
    refine ⟨pw, d6, _, rfl, e1, flds_no m6 l6 (by decide +kernel) (by decide +kernel), _, rfl, pw, p, M, rs.take 0 ++ rs.drop (0 + 1), rs, rfl, hw6, ft.sub (cut_sub rs 0), hp1.same t16, ft, fun H7 b7 s7 hb7 => ?_⟩
    have tb7 : b7 = true := hb7.mpr (fol_sub fun y hy => by
      obtain ⟨e, he, rfl⟩ := List.mem_map.mp hy
      exact List.mem_map.mpr ⟨e, (cut_sub rs 0).subset he, rfl⟩)
    subst tb7
    have t17 := t16.trans s7
    refine ⟨true, true, rfl, rfl, _, rfl, iteF ?_⟩
    -- the rows follow from more rows
    have hw27 := (hw.same t25).same (s6.trans s7)
    have t27 := t25.trans (s6.trans s7)
    refine ⟨_, rfl, p, dx, _, rfl, t17 _ _ h1, flds_no mr lr (by decide +kernel) (by decide +kernel), _, rfl, p, wd, M, rs, rs ++ [(r, x)], rfl, hp1.same t17, ft, hw27, ft2, fun H8 b8 s8 hb8 => ?_⟩
    have tb8 : b8 = true := hb8.mpr (fol_sub fun y hy => by
      rw [row2]
      exact List.mem_append_left _ hy)
    subst tb8
    have t18 := t17.trans s8
    have t28 := t27.trans s8
    refine ⟨true, true, rfl, rfl, _, rfl, iteF ?_⟩
    -- more rows follow just when the new one does
    refine ⟨_, rfl, wd, dw, _, rfl, t28 _ _ w1, flds_no mw lw (by decide +kernel) (by decide +kernel), _, rfl, wd, p, M, rs ++ [(r, x)], rs, rfl, hw.same t28, ft2, hp1.same t18, ft, fun H9 b9 s9 hb9 => ?_⟩
    have t19 := t18.trans s9
    refine ⟨_, rfl, r, _, _, _, rfl, rfl, SqT.of (t19 _ _ k1), atI_nat (j := 1) rfl, ?_⟩
    refine ⟨_, rfl, p, rfl, _, rfl, r, _, _, _, rfl, rfl, SqT.of (t19 _ _ k1), atI_nat (j := 0) rfl, .inr ⟨dx, _, t19 _ _ h1⟩, p, ra, M, rs, x.1, rfl, hp1.same t19, ft, k2.same t19, okx.1, okx.2.2.1, fun H10 qz zz s10 gz clz => ?_⟩
    have t110 := t19.trans s10
    refine ⟨rb, qz, x.2, zz, rfl, k3.same t110, gz, fun H11 s11 => ⟨rfl, _, rfl, ?_⟩⟩
    have e9 : b9 = wi x.2 zz := by
      rw [Bool.eq_iff_iff, hb9, wi_iff, row2]
      constructor
      · exact fun k => k x (List.mem_append_right _ (List.mem_singleton.mpr rfl)) zz clz
      · intro k y hy z cz
        rcases List.mem_append.mp hy with e | e
        · exact cz.row e
        · rw [List.mem_singleton.mp e] at cz ⊢
          rw [cz.unique clz]
          exact k
    rw [e9, decide_eq_true (show V.bl (wi x.2 zz) = V.bl (wi x.2 zz) from rfl)]
    have t111 := t110.trans s11
    -- the last row left out
    refine iteF ⟨_, rfl, p, dx, _, rfl, t111 _ _ h1, flds_no mr lr (by decide +kernel) (by decide +kernel), _, rfl, p, dx, _, rfl, t111 _ _ h1, p, M, rs, rfl, hp1.same t111, rs.length, rfl, by omega, _, _, rfl, rfl, ?_⟩
    have il : rs.length - 1 < rs.length := by omega
    refine ⟨p, M, rs, rs.length - 1, ?_, hp1.same t111, ft, il, fun H12 po s12 ho => ?_⟩
    · show [V.ref p, V.int ((rs.length : Int) - 1)] = [V.ref p, V.int ((rs.length - 1 : Nat) : Int)]
      rw [show (rs.length : Int) - 1 = ((rs.length - 1 : Nat) : Int) by omega]
    have t112 := t111.trans s12
    obtain ⟨d0, l0', m0, o1, o2, o3, o4⟩ := id ho
    refine ⟨po, rfl, _, rfl, .inr ⟨d0, _, o1⟩, po, l, M, rs.take (rs.length - 1) ++ rs.drop (rs.length - 1 + 1), xs, rfl, ho, ft.sub (cut_sub rs _), hl1.same t112, sx, mx, fun H13 qa za s13 ga cla => ?_⟩
    have t113 := t112.trans s13
    refine ⟨_, rfl, p, rfl, _, rfl, .inr ⟨dx, _, t113 _ _ h1⟩, p, l, M, rs, xs, rfl, hp1.same t113, ft, hl1.same t113, sx, mx, fun H14 qb zb s14 gb clb => ?_⟩
    refine ⟨qa, qb, za, zb, rfl, ga.same s14, gb, fun H15 s15 => ?_⟩
    rw [wi_iff.mpr (cla.more clb fun y hy => by
      obtain ⟨e, he, rfl⟩ := List.mem_map.mp hy
      exact List.mem_map.mpr ⟨e, (cut_sub rs _).subset he, rfl⟩)]
    have t115 := (t113.trans s14).trans s15
    exact q H15 (s1.trans (Sb.of t115)) (hB1.same t115)
end
end K16
/-! K16Law: the law's own def. -/
namespace K16
open PySem PySem.Spec PyProof.Rows L2
section
variable {P : Program} {w : World} {K : PySem.W.Frag} {mg : PySem.Str → Option Value} {base : Heap} {C : Addr}
def spLaw (K : PySem.W.Frag) : Sp := fun vs H Q _ => ∃ (a : Addr) (ns : List Int), vs = [.ref a] ∧ SqL K H a (ns.map V.int) ∧ ∀ H', Q (.bl true) H'
theorem ok_law (T : Cl K mg C) {f : Addr} {fd : FuncData} (F : Fun K "law" "law" sLaw f fd) (B : Blt mg) (S : Sps P w K mg base C) (N : Mi P w K mg base 6 C (spInit C))
    (GBag : Dn P w K mg base 1 "_law_bag" (spBag K)) (GT : Dn P w K mg base 1 "_law_take" spTake) (GM : Dn P w K mg base 2 "_law_marks" spLMarks) (GS : Dn P w K mg base 5 "_law_some_rows" spSome) (GR : Dn P w K mg base 4 "_law_rule" spRule)
    (GE : Dn P w K mg base 6 "all_lots" spAllLots) (GW : Dn P w K mg base 1 "within" spWithin) (GB : Dn P w K mg base 2 "breaks" spBreaks) (GRows : Md P w K mg base 1 C "rows" (spRows C)) (GOne : Dn P w K mg base 2 "_law_one" spOne)
    (GP : Dn P w K mg base 6 "_law_pair_right" (spPair C)) (GJ : Dn P w K mg base 2 "joined" spJoined) (GMo : Dn P w K mg base 9 "_law_more_right" (spMore C)) (GL : Dn P w K mg base 2 "_law_lot" spLot) :
    FnOk P w K mg base CX0 10 f fd ["_law_script"] (spLaw K) := by
  obtain ⟨gc, CO, FC⟩ := S.call
  obtain ⟨gh, hs, hf, FH⟩ := S.has
  refine F.ok scLaw (fun vs H Q E h => ?_) (fun cdv A outer s H vs Q E hr h => ?_)
  · obtain ⟨a, ns, rfl, _⟩ := h
    rfl
  · obtain ⟨a, ns, rfl, ha, q⟩ := h
    have nd := scLaw.nd
    refine ⟨_, pss_cons (ps_set (i := 1) nd rfl (Or.inl rfl) (pe_d GBag hr (by rfl) (pa_cons (pv 0) pa_nil)))
      (pss_cons (ps_for PassesOwn.never rfl (pi_range1 rfl B.range (pa_cons pe_int pa_nil)) (pg_name (i := 2) nd rfl (Or.inl rfl))
      (pss_cons (ps_set (i := 3) nd rfl (Or.inl rfl) (pe_d GM hr (by rfl) (pa_cons (pv 1) (pa_cons (pe_d GT hr (by rfl) (pa_cons (pv 1) (pa_cons pe_int pa_nil))) pa_nil))))
      (pss_cons (ps_set (i := 4) nd rfl (Or.inr rfl) (pe_n N hr (by rfl) T.mgC (pa_cons (pv 3) (pa_cons (pe_op op_cat (pe_d GS hr (by rfl) (pa_cons (pv 1) (pa_cons (pv 3) (pa_cons pe_int pa_nil)))) (pe_lst (pa_cons (pe_d GR hr (by rfl) (pa_cons (pv 1) (pa_cons (pv 3) pa_nil))) pa_nil))) pa_nil))))
      (pss_cons (ps_set (i := 5) nd rfl (Or.inl rfl) (pe_d GE hr (by rfl) (pa_cons (pv 3) pa_nil)))
      (pss_cons (ps_for PassesOwn.never rfl (pi_list (pv 5)) (pg_name (i := 6) nd rfl (Or.inr rfl))
      (pss_cons (ps_set (i := 7) nd rfl (Or.inr rfl) (StX.pe_callO (pv 4) CO FC (hr.mono (by decide)) pass0 (pa_cons (pv 6) pa_nil)))
      (pss_cons (ps_if (PW.pt (pw_or (pt_not (pt_val (pe_d GW hr (by rfl) (pa_cons (pv 6) (pa_cons (pv 7) pa_nil))))) (pw_or (pt_cmpR (op_ownNotIn hs hf FH (hr.mono (by decide)) pass0) (pv 7) (pv 4) rfl) (pw_or1 (pt_cmpR (op_neD (hu64 hr)) (StX.pe_callO (pv 4) CO FC (hr.mono (by decide)) pass0 (pa_cons (pv 7) pa_nil)) (pv 7) (nomark _)))))) (pss_one ps_never) pss_nil)
      (pss_cons (ps_if (pt_cmpR (op_neD (hu64 hr)) (pe_lc (own := [("_law_row", 11)]) (g := gName 11) (tt := tB (tCall spBreaks [] E0 (tCons (tVar 7) (tCons (tVar 11) tNil)))) (te := tVar 11) rfl nd (pi_list (pe_m0 GRows T.cl hr (pv 4)))
        (blkOk_by (own := [("_law_row", 11)]) (N := ["_law_script", "_law_bag_here", "_law_turn", "_law_marks_here", "_law_rules", "_law_every", "_law_lot_here", "_law_found", "_law_one_here", "_law_k", "_law_other", "_law_row"]) (sc := defScope sLaw) (by decide +kernel))
        (fun _ _ _ _ _ => pg_name (i := 11) nd rfl (Or.inl rfl)) (fun _ _ _ _ _ => pts_one (pt_val (pe_d GB hr (by rfl) (pa_cons (pv 7) (pa_cons (pv 11) pa_nil))))) (fun _ _ _ _ _ => (pv 11))) (pe_lst pa_nil) (nomark _)) (pss_one ps_never) pss_nil)
      (pss_one (ps_if (pt_cmpR (op_neD (hu64 hr)) (pe_lc (own := [("_law_one_here", 8)]) (g := gName 8) (tt := tAnd (tTest (tOp (rOwnIn C (spContains C) E0 false) (tVar 8) (tVar 4))) (tAnd (tB (tCall spWithin [] E0 (tCons (tVar 6) (tCons (tVar 8) tNil)))) (tNot (tB (tCall spWithin [] E0 (tCons (tVar 7) (tCons (tVar 8) tNil))))))) (te := tVar 8) rfl nd (pi_list (pv 5))
        (blkOk_by (own := [("_law_one_here", 8)]) (N := ["_law_script", "_law_bag_here", "_law_turn", "_law_marks_here", "_law_rules", "_law_every", "_law_lot_here", "_law_found", "_law_one_here", "_law_k", "_law_other", "_law_row"]) (sc := defScope sLaw) (by decide +kernel))
        (fun _ _ _ _ _ => pg_name (i := 8) nd rfl (Or.inl rfl)) (fun _ _ _ _ _ => pts_one (PW.pt (pw_and (pt_cmpR (op_ownIn hs hf FH (hr.mono (by decide)) pass0) (pv 8) (pv 4) rfl) (pw_and (pt_val (pe_d GW hr (by rfl) (pa_cons (pv 6) (pa_cons (pv 8) pa_nil)))) (pw_and1 (pt_not (pt_val (pe_d GW hr (by rfl) (pa_cons (pv 7) (pa_cons (pv 8) pa_nil)))))))))) (fun _ _ _ _ _ => (pv 8))) (pe_lst pa_nil) (nomark _)) (pss_one ps_never) pss_nil))))))
      (pss_cons (ps_for PassesOwn.never rfl (pi_range1 rfl B.range (pa_cons pe_int pa_nil)) (pg_name (i := 9) nd rfl (Or.inl rfl))
      (pss_cons (ps_par (i := 8) (j := 10) (by rfl) nd rfl rfl (by decide) rfl rfl (pa_cons (pe_d GOne hr (by rfl) (pa_cons (pv 1) (pa_cons (pv 5) pa_nil))) (pa_cons (pe_d GOne hr (by rfl) (pa_cons (pv 1) (pa_cons (pv 5) pa_nil))) pa_nil)) (by rfl))
      (pss_one (ps_if (PW.pt (pw_or (pt_not (pt_val (pe_d GP hr (by rfl) (pa_cons (pv 4) (pa_cons (pv 8) (pa_cons (pv 10) pa_nil)))))) (pw_or1 (pt_not (pt_val (pe_d GP hr (by rfl) (pa_cons (pv 4) (pa_cons (pv 8) (pa_cons (pe_d GJ hr (by rfl) (pa_cons (pv 8) (pa_cons (pv 10) pa_nil))) pa_nil))))))))) (pss_one ps_never) pss_nil))))
      (pss_one (ps_for PassesOwn.never rfl (pi_range1 rfl B.range (pa_cons pe_int pa_nil)) (pg_name (i := 9) nd rfl (Or.inl rfl))
      (pss_one (ps_if (pt_not (pt_val (pe_d GMo hr (by rfl) (pa_cons (pv 1) (pa_cons (pv 4) (pa_cons (pv 3) (pa_cons (pe_d GL hr (by rfl) (pa_cons (pv 1) (pa_cons (pv 3) pa_nil))) pa_nil))))))) (pss_one ps_never) pss_nil))))))))))
      (pss_one (ps_ret pe_bl))), ?_⟩
    refine ⟨_, rfl, a, ns, rfl, ha, fun H0 b c s0 hB0 => ?_⟩
    refine ⟨2, rfl, by decide, by decide, for_range (n := 2) (fun i σ H' => ∃ y2 y3 y4 y5 y6 y7 y8 y9 y10 y11 : Option V, σ = [some (.ref a), some (.ref b), y2, y3, y4, y5, y6, y7, y8, y9, y10, y11] ∧ BagAt c H' b)
      ⟨none, none, none, none, none, none, none, none, none, none, rfl, hB0⟩ ?_ ?_⟩
    · rintro i σ H1 hi ⟨y2, y3, y4, y5, y6, y7, y8, y9, y10, y11, rfl, hB1⟩
      -- the marks
      refine ⟨_, rfl, _, rfl, b, c, _, rfl, hB1, by decide, by decide, fun H2 n s2 hB2 hn => ?_⟩
      refine ⟨b, c, n, rfl, hB2, hn, fun H3 m M s3 hB3 hm3 gM m6 => ?_⟩
      -- the Rules
      refine ⟨_, rfl, _, rfl, _, rfl, b, c, m, M, 8, rfl, hB3, hm3, gM.1, by decide, fun H4 l rs s4 hB4 hl hR ok l8 => ?_⟩
      have hm4 := bag_lot hB3 s4 hm3
      refine ⟨_, rfl, _, rfl, b, c, m, M, rfl, hB4, hm4, gM.1, fun H5 r x s5 hB5 hr5 okx => ?_⟩
      have hm5 := bag_lot hB4 s5 hm4
      have hl5 := bag_refs (f := fun r : Addr × Row => r.1) hB4 s5 hl
      have hR5 := bag_rows hB4 s5 hR
      refine ⟨by show 1 ≤ sizeLine; decide, fun l1 h1 => ?_⟩
      have s6 : Same H5 (upd H5 l1 (.lst [.ref r])) := same_upd h1
      refine ⟨l, l1, _, _, rfl, rfl, s6 _ _ hl5, upd_same, ?_, fun l2 h2 => ?_⟩
      · rw [List.length_map]
        exact Nat.le_trans (Nat.add_le_add_right l8 1) (by decide)
      have s7 := s6.trans (same_upd h2 (o := .lst (rrefs rs ++ [.ref r])))
      intro y dy ny ndy ne
      have s8 := s7.trans (made_keeps (C := C) ny ndy)
      have ft : Fit M (rs ++ [(r, x)]) := ⟨gM, by omega, fun z hz => by
        rcases List.mem_append.mp hz with e | e
        · exact ok z e
        · rw [List.mem_singleton.mp e]
          exact okx, by rw [List.length_append, List.length_singleton]; omega⟩
      have lt : 0 < (rs ++ [(r, x)]).length := by
        rw [List.length_append, List.length_singleton]
        omega
      have l50 : (rs ++ [(r, x)]).length ≤ 50 := by
        rw [List.length_append, List.length_singleton]
        omega
      refine ⟨y, dy, m, l2, M, rs ++ [(r, x)], rfl, upd_same, hm5.same s8, ?_, fun z hz => ?_, ft, fun H6 kp hp6 => ⟨rfl, ?_⟩⟩
      · refine made_keeps (C := C) ny ndy _ _ ?_
        rw [upd_same]
        show some (HO.lst (rrefs rs ++ [.ref r])) = some (HO.lst ((rs ++ [(r, x)]).map fun r => V.ref r.1))
        rw [List.map_append]
        rfl
      · rcases List.mem_append.mp hz with e | e
        · exact (hR5 z e).same s8
        · rw [List.mem_singleton.mp e]
          exact hr5.same s8
      have s9 : Same H5 H6 := s7.trans (made_same ny ndy kp)
      have hB6 := hB5.same s9
      have hm6 := hm5.same s9
      generalize rs ++ [(r, x)] = ws at ft lt l50 hp6
      -- all lots
      refine ⟨_, rfl, m, M, rfl, hm6, m6, fun H7 ev bs s10 hev hbs bne b64 => ?_⟩
      have hB7 := hB6.same s10
      have hm7 := hm6.same s10
      have hp7 := hp6.same s10
      have inM : ∀ e ∈ bs, Srt e.2 ∧ ∀ t ∈ e.2, t ∈ M := fun e he => ⟨srt_sub gM.1 (hbs e he).2, fun t ht => (hbs e he).2.subset ht⟩
      -- each lot
      refine ⟨_, rfl, ev, rfl, ⟨_, SqL.of hev⟩, for_list (K := K) (a := ev) (xs := refs bs) (fun _ σ H' => ∃ z6 z7 : Option V, σ = [some (.ref a), some (.ref b), some (.int (0 + i)), some (.ref m), some (.ref y), some (.ref ev), z6, z7, y8, y9, y10, y11] ∧ Same H7 H')
        ⟨y6, y7, rfl, Same.refl _⟩ (fun j σ H' _ ⟨_, _, _, s⟩ => SqL.of (s _ _ hev)) ?_ ?_⟩
      · rintro j x' σ H8 hj ⟨z6, z7, rfl, s11⟩
        rw [List.getElem?_map] at hj
        obtain ⟨e, hj1, hj2⟩ := Option.map_eq_some_iff.mp hj
        subst hj2
        have he : e ∈ bs := List.mem_of_getElem? hj1
        obtain ⟨se, me⟩ := inM e he
        have le := (hbs e he).1.same s11
        have hp8 := hp7.same s11
        obtain ⟨dx, lr, mr, g1, g2, g3, g4⟩ := id hp8
        -- its closing
        refine ⟨_, rfl, y, rfl, _, rfl, .inr ⟨dx, _, g1⟩, y, e.1, M, ws, e.2, rfl, hp8, ft, le, se, me, fun H9 q1 zs s12 hq1 cl => ?_⟩
        have mz := ft.in_ cl me
        have gz : Good zs := Good.of cl.srt mz gM
        refine ⟨_, rfl, _, rfl, e.1, q1, e.2, zs, rfl, le.same s12, hq1, fun H10 s13 => ⟨_, rfl, ?_⟩⟩
        rw [wi_iff.mpr cl.sub]
        have t10 := s12.trans s13
        refine iteF ⟨_, rfl, _, rfl, y, dx, _, rfl, t10 _ _ g1, y, q1, M, ws, zs, rfl, hp8.same t10, ft, hq1.same s13, gz, mz, fun H11 k s14 hk => ⟨k, rfl, _, rfl, ?_⟩⟩
        rw [hk.mpr cl.cl]
        have t11 := t10.trans s14
        have hq11 := (hq1.same s13).same s14
        refine iteF ⟨_, rfl, y, rfl, _, rfl, .inr ⟨dx, _, t11 _ _ g1⟩, y, q1, M, ws, zs, rfl, hp8.same t11, ft, hq11, cl.srt, mz, fun H12 q2 zs2 s15 hq2 cl2 => ⟨_, rfl, ?_⟩⟩
        have ez : zs2 = zs := cl.idem cl2
        refine ⟨lotD zs2, lotD zs, dp_lot hq2, dp_lot (hq11.same s15), lot_shaped (by rw [ez]; exact gz.2), lot_shaped gz.2, _, rfl, ?_⟩
        rw [eqv_lot, decide_eq_true ez]
        have t12 := t11.trans s15
        have hq12 := hq11.same s15
        -- the rows that it breaks
        refine iteF ⟨_, rfl, y, dx, _, rfl, t12 _ _ g1, flds_no mr lr (by decide +kernel) (by decide +kernel), y, M, ws, rfl, hp8.same t12, fun H13 l13 s16 h13 => ⟨l13, rfl, ⟨_, SqL.of h13⟩, fun D hD => ?_⟩⟩
        have t13 := t12.trans s16
        have hq13 := hq12.same s16
        have g13 : RowsAt H13 ws := g4.same t13
        refine lc_same (w := walk_list (K := K) (a := l13) (xs := rrefs ws)) ws (fun r => V.ref r.1) (fun r => brk zs r.2) (fun r => V.ref r.1) (List.length_map _) (yat (List.length_map _)) hD (fun H3 s3 => SqL.of (s3 _ _ h13)) (Nat.lt_of_le_of_lt ft.len (by decide))
          (fun r' hr' H3 s3 C' N' c' n' => ?_) fun H14 s17 hd => ?_
        · refine ⟨rfl, ?_⟩
          refine ⟨_, rfl, _, rfl, q1, r'.1, zs, r'.2, rfl, hq13.same s3, (g13 r' hr').same s3, fun H4 s4 => ⟨_, rfl, ?_⟩⟩
          exact ite2 (fun e => ⟨_, rfl, c' e H4 s4⟩) (fun e => n' (by simpa using e) H4 s4)
        rw [show ws.filter (fun r => brk zs r.2) = [] from closed_nil cl.cl] at hd
        have eN : PyData.eqv (.list []) (.list []) = true := eqv_rows []
        have shN : SeqAt.shaped (.list []) = true := by decide +kernel
        refine ⟨Nat.zero_le _, fun n1 hn1 => ⟨.list [], .list [], .lst (SqL.of (same_upd hn1 _ _ hd)) .nil, .lst (SqL.of upd_same) .nil, shN, shN, _, rfl, ?_⟩⟩
        rw [eN]
        have s18 : Same H14 (upd H14 n1 (.lst [])) := same_upd hn1
        have t14 := (t13.trans s17).trans s18
        have hq14 := (hq13.same s17).same s18
        generalize upd H14 n1 (.lst []) = H15 at t14 hq14
        -- the closed lots that have it
        refine iteF ⟨_, rfl, ev, rfl, ⟨_, SqL.of (t14 _ _ (s11 _ _ hev))⟩, fun D hD => ?_⟩
        refine lc_same (w := walk_list (K := K) (a := ev) (xs := refs bs)) bs (fun e => V.ref e.1) (fun _ => false) (fun e => V.ref e.1) (List.length_map _) (yat (List.length_map _)) hD (fun H3 s3 => SqL.of (s3 _ _ (t14 _ _ (s11 _ _ hev)))) (Nat.lt_of_le_of_lt b64 (by decide))
          (fun o ho H3 s3 C' N' c' n' => ?_) fun H16 s19 hd2 => ?_
        · obtain ⟨so, mo⟩ := inM o ho
          have t15 := t14.trans s3
          have lo := ((hbs o ho).1.same s11).same t15
          refine ⟨rfl, ?_⟩
          refine ⟨_, rfl, _, rfl, y, dx, _, rfl, t15 _ _ g1, y, o.1, M, ws, o.2, rfl, hp8.same t15, ft, lo, Good.of so mo gM, mo, fun H17 k s20 hk => ⟨k, rfl, _, rfl, ?_⟩⟩
          refine ite2 (fun ek => ?_) (fun ek => iteF (n' rfl H17 s20))
          have t16 := t15.trans s20
          refine ⟨_, rfl, _, rfl, e.1, o.1, e.2, o.2, rfl, le.same t16, lo.same s20, fun H18 s21 => ⟨_, rfl, ?_⟩⟩
          refine ite2 (fun ew => ?_) (fun ew => iteF (n' rfl H18 (s20.trans s21)))
          refine ⟨_, rfl, _, rfl, q1, o.1, zs, o.2, rfl, ((hq14.same s3).same s20).same s21, (lo.same s20).same s21, fun H19 s22 => ⟨_, rfl, ?_⟩⟩
          rw [wi_iff.mpr (cl.least o.2 (wi_iff.mp ew) (hk.mp ek))]
          exact iteF (n' rfl H19 ((s20.trans s21).trans s22))
        rw [show bs.filter (fun _ => false) = [] from List.filter_eq_nil_iff.mpr fun _ _ => Bool.false_ne_true] at hd2
        refine ⟨Nat.zero_le _, fun n2 hn2 => ⟨.list [], .list [], .lst (SqL.of (same_upd hn2 _ _ hd2)) .nil, .lst (SqL.of upd_same) .nil, shN, shN, _, rfl, ?_⟩⟩
        rw [eN]
        exact iteF ⟨some (.ref e.1), some (.ref q1), rfl, ((s11.trans t14).trans s19).trans (same_upd hn2)⟩
      · rintro σ H8 ⟨z6, z7, rfl, s11⟩
        have hB8 := hB7.same s11
        have hp8 := hp7.same s11
        have hm8 := hm7.same s11
        have hev8 := s11 _ _ hev
        have hbs8 := hbs.same s11
        -- pairs
        refine ⟨20, rfl, by decide, by decide, for_range (n := 20) (fun _ σ H' => ∃ z8 z9 z10 : Option V, σ = [some (.ref a), some (.ref b), some (.int (0 + i)), some (.ref m), some (.ref y), some (.ref ev), z6, z7, z8, z9, z10, y11] ∧ Sb b H8 H' ∧ BagAt c H' b)
          ⟨y8, y9, y10, rfl, Sb.refl _ _, hB8⟩ ?_ ?_⟩
        · rintro j σ H9 hj ⟨z8, z9, z10, rfl, s12, hB9⟩
          have hev9 := bag_refs (f := fun r : Addr × Lot => r.1) hB8 s12 hev8
          refine ⟨_, rfl, _, rfl, b, c, ev, bs, rfl, hB9, hev9, bne, b64, fun H10 e1 s13 hB10 he1 => ?_⟩
          have hev10 := bag_refs (f := fun r : Addr × Lot => r.1) hB9 s13 hev9
          refine ⟨_, rfl, _, rfl, b, c, ev, bs, rfl, hB10, hev10, bne, b64, fun H11 e2 s14 hB11 he2 => ⟨_, _, rfl, ?_⟩⟩
          have t11 := (s12.trans s13).trans s14
          obtain ⟨so1, mo1⟩ := inM e1 he1
          obtain ⟨so2, mo2⟩ := inM e2 he2
          have l1 := bag_lot hB8 t11 (hbs8 e1 he1).1
          have l2 := bag_lot hB8 t11 (hbs8 e2 he2).1
          have hp11 := bag_rules hB8 t11 hp8
          refine ⟨_, rfl, _, rfl, _, rfl, y, e1.1, e2.1, M, ws, e1.2, e2.2, rfl, hp11, ft, l1, l2, so1, so2, mo1, mo2, fun H12 s15 => ⟨_, rfl, iteF ?_⟩⟩
          refine ⟨_, rfl, _, rfl, _, rfl, _, rfl, e1.1, e2.1, e1.2, e2.2, M, rfl, l1.same s15, l2.same s15, ft.few, mo1, mo2, fun H13 q3 us s16 hq3 su hu => ?_⟩
          have t13 := s15.trans s16
          refine ⟨y, e1.1, q3, M, ws, e1.2, us, rfl, hp11.same t13, ft, l1.same t13, hq3, so1, su, mo1, fun z hz => ((hu z).mp hz).elim (mo1 z) (mo2 z), fun H14 s17 => ⟨_, rfl, iteF ?_⟩⟩
          have t14 := t13.trans s17
          exact ⟨_, _, _, rfl, t11.trans (Sb.of t14), hB11.same t14⟩
        · rintro σ H9 ⟨z8, z9, z10, rfl, s12, hB9⟩
          have hp9 := bag_rules hB8 s12 hp8
          have hm9 := bag_lot hB8 s12 hm8
          -- one more row
          refine ⟨3, rfl, by decide, by decide, for_range (n := 3) (fun _ σ H' => ∃ z9 : Option V, σ = [some (.ref a), some (.ref b), some (.int (0 + i)), some (.ref m), some (.ref y), some (.ref ev), z6, z7, z8, z9, z10, y11] ∧ Sb b H9 H' ∧ BagAt c H' b)
            ⟨z9, rfl, Sb.refl _ _, hB9⟩ ?_ ?_⟩
          · rintro j σ H10 hj ⟨z9', rfl, s13, hB10⟩
            refine ⟨_, rfl, _, rfl, _, rfl, _, rfl, _, rfl, b, c, m, M, rfl, hB10, bag_lot hB9 s13 hm9, fun H11 p1 xs s14 hB11 l1 sub => ?_⟩
            have t11 := s13.trans s14
            refine ⟨b, c, y, m, p1, M, ws, xs, rfl, hB11, bag_rules hB9 t11 hp9, ft, lt, l50, bag_lot hB9 t11 hm9, l1, srt_sub gM.1 sub, fun z hz => sub.subset hz, fun H12 s15 hB12 => ⟨_, rfl, iteF ?_⟩⟩
            exact ⟨_, rfl, t11.trans s15, hB12⟩
          · rintro σ H10 ⟨z9', rfl, s13, hB10⟩
            exact ⟨_, _, _, _, _, _, _, _, _, _, rfl, hB10⟩
    · rintro σ H1 ⟨y2, y3, y4, y5, y6, y7, y8, y9, y10, y11, rfl, hB1⟩
      exact q H1
end
end K16
/-! K16End: where the top has left each def, and all promises joined (printed by gen_end.py). -/
namespace K16
open PySem PySem.Spec PyProof.Rows L2
def BindF (x qual : PySem.Str) (st : Stmt) (ps : List PySem.Str) : Prop := ∀ (kV doc pm : Value) (an : Option Addr) (cdv ct : Value) (us : List Value), us.length = ps.length →
  bindArgs (PySem.W.fnOf x qual (defArgs st) (defBody st) (defScope st) .none kV doc pm an cdv ct) ⟨us, []⟩ = pure (ps.zip us)
section
variable {K : PySem.W.Frag} {h : Heap} {mg : PySem.Str → Option Value} {C f : Addr} {x qual : PySem.Str} {st : Stmt} {ps : List PySem.Str} {od an : Option Addr} {osl : Array (Option Value)} {oc kV doc pm cdv ct : Value}
theorem at_of (b : BindF x x st ps) (X : K.In h) (G : h.Ns mainGlobals mg) (a : PySem.W.nsIn K mainGlobals x = some (some (.ref f)))
    (l : K.lookup f = some ⟨oc, od, .func (PySem.W.fnOf x x (defArgs st) (defBody st) (defScope st) .none kV doc pm an cdv ct), osl⟩) (c : PySem.W.codeIn K cdv x = true) (k : PySem.W.keepIn K (.ref f) = true) : At K mg x st ps :=
  ⟨f, _, fun_mk l c k, PySem.W.mg_of X G a, (fun_mk l c k).binds b⟩
theorem mat_of (b : BindF x qual st ps) (a : PySem.W.findIn K (.ref C) x = some (some (.ref f))) (i : PySem.W.isFn K (.ref f) = true)
    (l : K.lookup f = some ⟨oc, od, .func (PySem.W.fnOf x qual (defArgs st) (defBody st) (defScope st) .none kV doc pm an cdv ct), osl⟩) (c : PySem.W.codeIn K cdv qual = true) (k : PySem.W.keepIn K (.ref f) = true) : MAt K C x qual st ps :=
  ⟨f, _, fun_mk l c k, ⟨a, i, k⟩, (fun_mk l c k).binds b⟩
end
theorem bfLotOf : BindF "lot_of" "lot_of" sLotOf ["marks"] := fun _ _ _ _ _ _ us hl => match us, hl with | [_], _ => rfl
theorem bfRank : BindF "rank" "rank" sRank ["lot"] := fun _ _ _ _ _ _ us hl => match us, hl with | [_], _ => rfl
theorem bfInOrder : BindF "in_order" "in_order" sInOrder ["lots"] := fun _ _ _ _ _ _ us hl => match us, hl with | [_], _ => rfl
theorem bfAllLots : BindF "all_lots" "all_lots" sAllLots ["marks"] := fun _ _ _ _ _ _ us hl => match us, hl with | [_], _ => rfl
theorem bfWithin : BindF "within" "within" sWithin ["one", "other"] := fun _ _ _ _ _ _ us hl => match us, hl with | [_, _], _ => rfl
theorem bfJoined : BindF "joined" "joined" sJoined ["one", "other"] := fun _ _ _ _ _ _ us hl => match us, hl with | [_, _], _ => rfl
theorem bfCommon : BindF "common" "common" sCommon ["one", "other"] := fun _ _ _ _ _ _ us hl => match us, hl with | [_, _], _ => rfl
theorem bfIsInteger : BindF "is_integer" "is_integer" sIsInteger ["thing"] := fun _ _ _ _ _ _ us hl => match us, hl with | [_], _ => rfl
theorem bfIsMark : BindF "is_mark" "is_mark" sIsMark ["thing"] := fun _ _ _ _ _ _ us hl => match us, hl with | [_], _ => rfl
theorem bfIsLot : BindF "is_lot" "is_lot" sIsLot ["thing"] := fun _ _ _ _ _ _ us hl => match us, hl with | [_], _ => rfl
theorem bfIsRule : BindF "is_rule" "is_rule" sIsRule ["thing"] := fun _ _ _ _ _ _ us hl => match us, hl with | [_], _ => rfl
theorem bfBreaks : BindF "breaks" "breaks" sBreaks ["lot", "rule"] := fun _ _ _ _ _ _ us hl => match us, hl with | [_, _], _ => rfl
theorem bfIsRuleOf : BindF "is_rule_of" "is_rule_of" sIsRuleOf ["marks", "thing"] := fun _ _ _ _ _ _ us hl => match us, hl with | [_, _], _ => rfl
theorem bfAreRulesOf : BindF "are_rules_of" "are_rules_of" sAreRulesOf ["marks", "thing"] := fun _ _ _ _ _ _ us hl => match us, hl with | [_, _], _ => rfl
theorem bfBag : BindF "_law_bag" "_law_bag" sBag ["_law_script"] := fun _ _ _ _ _ _ us hl => match us, hl with | [_], _ => rfl
theorem bfTake : BindF "_law_take" "_law_take" sTake ["_law_bag_here", "_law_many"] := fun _ _ _ _ _ _ us hl => match us, hl with | [_, _], _ => rfl
theorem bfMixed : BindF "_law_mixed" "_law_mixed" sMixed ["_law_bag_here", "_law_things"] := fun _ _ _ _ _ _ us hl => match us, hl with | [_, _], _ => rfl
theorem bfOne : BindF "_law_one" "_law_one" sOne ["_law_bag_here", "_law_things"] := fun _ _ _ _ _ _ us hl => match us, hl with | [_, _], _ => rfl
theorem bfLMarks : BindF "_law_marks" "_law_marks" sLMarks ["_law_bag_here", "_law_many"] := fun _ _ _ _ _ _ us hl => match us, hl with | [_, _], _ => rfl
theorem bfLot : BindF "_law_lot" "_law_lot" sLot ["_law_bag_here", "_law_marks_here"] := fun _ _ _ _ _ _ us hl => match us, hl with | [_, _], _ => rfl
theorem bfFew : BindF "_law_few" "_law_few" sFew ["_law_bag_here", "_law_marks_here", "_law_many"] := fun _ _ _ _ _ _ us hl => match us, hl with | [_, _, _], _ => rfl
theorem bfRule : BindF "_law_rule" "_law_rule" sRule ["_law_bag_here", "_law_marks_here"] := fun _ _ _ _ _ _ us hl => match us, hl with | [_, _], _ => rfl
theorem bfSomeRows : BindF "_law_some_rows" "_law_some_rows" sSomeRows ["_law_bag_here", "_law_marks_here", "_law_many"] := fun _ _ _ _ _ _ us hl => match us, hl with | [_, _, _], _ => rfl
theorem bfPairRight : BindF "_law_pair_right" "_law_pair_right" sPairRight ["_law_rules", "_law_one_here", "_law_other"] := fun _ _ _ _ _ _ us hl => match us, hl with | [_, _, _], _ => rfl
theorem bfMoreRight : BindF "_law_more_right" "_law_more_right" sMoreRight ["_law_bag_here", "_law_rules", "_law_marks_here", "_law_lot_here"] := fun _ _ _ _ _ _ us hl => match us, hl with | [_, _, _, _], _ => rfl
theorem bfInit : BindF "__init__" "Rules.__init__" sInit ["self", "marks", "rows"] := fun _ _ _ _ _ _ us hl => match us, hl with | [_, _, _], _ => rfl
theorem bfMarks : BindF "marks" "Rules.marks" sMarks ["self"] := fun _ _ _ _ _ _ us hl => match us, hl with | [_], _ => rfl
theorem bfRows : BindF "rows" "Rules.rows" sRows ["self"] := fun _ _ _ _ _ _ us hl => match us, hl with | [_], _ => rfl
theorem bfNeedRow : BindF "need_row" "Rules.need_row" sNeedRow ["self", "index"] := fun _ _ _ _ _ _ us hl => match us, hl with | [_, _], _ => rfl
theorem bfLen : BindF "__len__" "Rules.__len__" sLen ["self"] := fun _ _ _ _ _ _ us hl => match us, hl with | [_], _ => rfl
theorem bfClosing : BindF "closing" "Rules.closing" sClosing ["self", "lot"] := fun _ _ _ _ _ _ us hl => match us, hl with | [_, _], _ => rfl
theorem bfCall : BindF "__call__" "Rules.__call__" sCall ["self", "lot"] := fun _ _ _ _ _ _ us hl => match us, hl with | [_, _], _ => rfl
theorem bfBrokenBy : BindF "broken_by" "Rules.broken_by" sBrokenBy ["self", "lot"] := fun _ _ _ _ _ _ us hl => match us, hl with | [_, _], _ => rfl
theorem bfContains : BindF "__contains__" "Rules.__contains__" sContains ["self", "thing"] := fun _ _ _ _ _ _ us hl => match us, hl with | [_, _], _ => rfl
theorem bfAdd : BindF "__add__" "Rules.__add__" sAdd ["self", "rule"] := fun _ _ _ _ _ _ us hl => match us, hl with | [_, _], _ => rfl
theorem bfWithout : BindF "without" "Rules.without" sWithout ["self", "index"] := fun _ _ _ _ _ _ us hl => match us, hl with | [_, _], _ => rfl
theorem bfFollows : BindF "follows_from" "Rules.follows_from" sFollows ["self", "other"] := fun _ _ _ _ _ _ us hl => match us, hl with | [_, _], _ => rfl
/-- what the property is -/
structure Prp (K : PySem.W.Frag) (C : Addr) : Prop where
  ex : ∃ (p g : Addr) (fd : FuncData), PropOf K C "marks" p g ∧ Fun K "marks" "Rules.marks" sMarks g fd ∧ Binds K fd ["self"] []
theorem prp_of {K : PySem.W.Frag} {C p g : Addr} {rest : List Value} {od an : Option Addr} {osl : Array (Option Value)} {oc kV doc pm cdv ct : Value} (a : PySem.W.findIn K (.ref C) "marks" = some (some (.ref p))) (s : PySem.W.specialIn K (.ref p) "__get__" = some (some (.builtin "property.__get__")))
    (t : PySem.W.takesIn K (.ref p) = some true) (r : PySem.W.recIn K p "property" = some (.ref g :: rest)) (l : K.lookup g = some ⟨oc, od, .func (PySem.W.fnOf "marks" "Rules.marks" (defArgs sMarks) (defBody sMarks) (defScope sMarks) .none kV doc pm an cdv ct), osl⟩)
    (c : PySem.W.codeIn K cdv "Rules.marks" = true) (k : PySem.W.keepIn K (.ref g) = true) : Prp K C := ⟨p, g, _, ⟨a, s, t, ⟨rest, r⟩⟩, fun_mk l c k, (fun_mk l c k).binds bfMarks⟩
/-- all that the top has left -/
structure TopR (K : PySem.W.Frag) (mg : PySem.Str → Option Value) (C : Addr) : Prop where
  B : Blt mg
  T : Cl K mg C
  tk : ∃ tk, mg "LETTERS" = some (.str letS tk)
  mke : ∀ f, PySem.W.findIn K (.ref C) "__init__" = some (some (.ref f)) → Mk K C f
  co : ∃ g, StX.CallO K C g
  ao : ∃ g, AddO K C g
  pr : Prp K C
  dLotOf : At K mg "lot_of" sLotOf ["marks"]
  dRank : At K mg "rank" sRank ["lot"]
  dInOrder : At K mg "in_order" sInOrder ["lots"]
  dAllLots : At K mg "all_lots" sAllLots ["marks"]
  dWithin : At K mg "within" sWithin ["one", "other"]
  dJoined : At K mg "joined" sJoined ["one", "other"]
  dCommon : At K mg "common" sCommon ["one", "other"]
  dIsInteger : At K mg "is_integer" sIsInteger ["thing"]
  dIsMark : At K mg "is_mark" sIsMark ["thing"]
  dIsLot : At K mg "is_lot" sIsLot ["thing"]
  dIsRule : At K mg "is_rule" sIsRule ["thing"]
  dBreaks : At K mg "breaks" sBreaks ["lot", "rule"]
  dIsRuleOf : At K mg "is_rule_of" sIsRuleOf ["marks", "thing"]
  dAreRulesOf : At K mg "are_rules_of" sAreRulesOf ["marks", "thing"]
  dBag : At K mg "_law_bag" sBag ["_law_script"]
  dTake : At K mg "_law_take" sTake ["_law_bag_here", "_law_many"]
  dMixed : At K mg "_law_mixed" sMixed ["_law_bag_here", "_law_things"]
  dOne : At K mg "_law_one" sOne ["_law_bag_here", "_law_things"]
  dLMarks : At K mg "_law_marks" sLMarks ["_law_bag_here", "_law_many"]
  dLot : At K mg "_law_lot" sLot ["_law_bag_here", "_law_marks_here"]
  dFew : At K mg "_law_few" sFew ["_law_bag_here", "_law_marks_here", "_law_many"]
  dRule : At K mg "_law_rule" sRule ["_law_bag_here", "_law_marks_here"]
  dSomeRows : At K mg "_law_some_rows" sSomeRows ["_law_bag_here", "_law_marks_here", "_law_many"]
  dPairRight : At K mg "_law_pair_right" sPairRight ["_law_rules", "_law_one_here", "_law_other"]
  dMoreRight : At K mg "_law_more_right" sMoreRight ["_law_bag_here", "_law_rules", "_law_marks_here", "_law_lot_here"]
  mInit : MAt K C "__init__" "Rules.__init__" sInit ["self", "marks", "rows"]
  mRows : MAt K C "rows" "Rules.rows" sRows ["self"]
  mNeedRow : MAt K C "need_row" "Rules.need_row" sNeedRow ["self", "index"]
  mLen : MAt K C "__len__" "Rules.__len__" sLen ["self"]
  mClosing : MAt K C "closing" "Rules.closing" sClosing ["self", "lot"]
  mCall : MAt K C "__call__" "Rules.__call__" sCall ["self", "lot"]
  mBrokenBy : MAt K C "broken_by" "Rules.broken_by" sBrokenBy ["self", "lot"]
  mContains : MAt K C "__contains__" "Rules.__contains__" sContains ["self", "thing"]
  mAdd : MAt K C "__add__" "Rules.__add__" sAdd ["self", "rule"]
  mWithout : MAt K C "without" "Rules.without" sWithout ["self", "index"]
  mFollows : MAt K C "follows_from" "Rules.follows_from" sFollows ["self", "other"]
theorem all_end {P : Program} {w : World} {K : PySem.W.Frag} {mg : PySem.Str → Option Value} {C f : Addr} {fd : FuncData} (t : TopR K mg C) (F : Fun K "law" "law" sLaw f fd) (base : Heap) : FnOk P w K mg base CX0 10 f fd ["_law_script"] (spLaw K) := by
  obtain ⟨tk, mL⟩ := t.tk
  have B := t.B
  have T := t.T
  have gLotOf : Dn P w K mg base 1 "lot_of" (spLotOf K) := ok_lotOf t.dLotOf B
  have gInOrder : Dn P w K mg base 5 "in_order" spInOrder := ok_inOrder t.dInOrder t.dRank B
  have gAllLots : Dn P w K mg base 6 "all_lots" spAllLots := ok_allLots t.dAllLots gInOrder
  have gWithin : Dn P w K mg base 1 "within" spWithin := ok_within t.dWithin B
  have gJoined : Dn P w K mg base 2 "joined" spJoined := ok_joined t.dJoined gLotOf
  have gCommon : Dn P w K mg base 1 "common" spCommon := ok_common t.dCommon B
  have gIsInteger : Dn P w K mg base 1 "is_integer" spIsInteger := ok_isInteger t.dIsInteger B
  have gIsMark : Dn P w K mg base 1 "is_mark" spIsMark := ok_isMark t.dIsMark B mL
  have gIsLot : Dn P w K mg base 2 "is_lot" spIsLot := ok_isLot t.dIsLot B gIsMark
  have gIsRule : Dn P w K mg base 3 "is_rule" spIsRule := ok_isRule t.dIsRule B gIsLot
  have gBreaks : Dn P w K mg base 2 "breaks" spBreaks := ok_breaks t.dBreaks gWithin
  have gIsRuleOf : Dn P w K mg base 4 "is_rule_of" spIsRuleOf := ok_isRuleOf t.dIsRuleOf gWithin gIsRule
  have gAreRulesOf : Dn P w K mg base 5 "are_rules_of" spAreRulesOf := ok_areRulesOf t.dAreRulesOf B gIsRuleOf
  have gNew : Mi P w K mg base 6 C (spInit C) := by
    obtain ⟨f, fd, F, hm, hb⟩ := t.mInit.ex
    exact ⟨f, fd, _, t.mke f hm.at_, ok_init T F B gIsLot gAreRulesOf, hb⟩
  have gRows : Md P w K mg base 1 C "rows" (spRows C) := ok_rows T t.mRows B
  have gLen : Md P w K mg base 1 C "__len__" (spLen C) := ok_len T t.mLen B
  have gNeedRow : Md P w K mg base 2 C "need_row" (spNeedRow C) := ok_needRow T t.mNeedRow B gIsInteger
  have gBrokenBy : Md P w K mg base 3 C "broken_by" (spBrokenBy C) := ok_brokenBy T t.mBrokenBy gBreaks
  have gClosing : Md P w K mg base 4 C "closing" (spClosing C) := ok_closing T t.mClosing gBrokenBy gJoined
  have gCall : Md P w K mg base 5 C "__call__" (spClosing C) := ok_call T t.mCall gClosing
  have gContains : Md P w K mg base 4 C "__contains__" (spContains C) := ok_contains T t.mContains gIsLot gWithin gBrokenBy
  have gAdd : Md P w K mg base 8 C "__add__" (spAdd C) := ok_add T t.mAdd gIsRuleOf gNew
  have gWithout : Md P w K mg base 8 C "without" (spWithout C) := ok_without T t.mWithout gNeedRow gNew
  have gFollows : Md P w K mg base 5 C "follows_from" (spFollows C) := by
    obtain ⟨p, g, fdg, PR, FG, bg⟩ := t.pr.ex
    exact ok_follows T t.mFollows B gWithin gClosing PR (ok_marks T FG) bg
  have S : Sps P w K mg base C := Sps.of gCall gContains gAdd gLen t.co t.ao
  have gBag : Dn P w K mg base 1 "_law_bag" (spBag K) := ok_bag t.dBag B
  have gTake : Dn P w K mg base 1 "_law_take" spTake := ok_take t.dTake B
  have gMixed : Dn P w K mg base 2 "_law_mixed" spMixed := ok_mixed t.dMixed B gTake
  have gOne : Dn P w K mg base 2 "_law_one" spOne := ok_one t.dOne B gTake
  have gLMarks : Dn P w K mg base 2 "_law_marks" spLMarks := ok_lmarks t.dLMarks B gTake
  have gLot : Dn P w K mg base 2 "_law_lot" spLot := ok_lot t.dLot B gTake
  have gFew : Dn P w K mg base 3 "_law_few" spFew := ok_few t.dFew B gMixed
  have gRule : Dn P w K mg base 4 "_law_rule" spRule := ok_rule t.dRule gTake gLot gFew
  have gSome : Dn P w K mg base 5 "_law_some_rows" spSome := ok_some t.dSomeRows B gTake gRule
  have gPair : Dn P w K mg base 6 "_law_pair_right" (spPair C) := ok_pair t.dPairRight S gWithin gJoined gCommon
  have gMore : Dn P w K mg base 9 "_law_more_right" (spMore C) := ok_more T t.dMoreRight B S gWithin gRule gWithout gFollows
  exact ok_law T F B S gNew gBag gTake gLMarks gSome gRule gAllLots gWithin gBreaks gRows gOne gPair gJoined gMore gLot
theorem law_mk {P : Program} {w : World} {K : PySem.W.Frag} {h : Heap} {mg : PySem.Str → Option Value} {C fa f : Addr} {od an : Option Addr} {osl : Array (Option Value)} {oc kV doc pm cdv ct : Value} (X : K.In h) (G : h.Ns mainGlobals mg) (hfa : mg "law" = some (.ref fa)) (t : TopR K mg C)
    (a : PySem.W.nsIn K mainGlobals "law" = some (some (.ref f))) (l : K.lookup f = some ⟨oc, od, .func (PySem.W.fnOf "law" "law" (defArgs sLaw) (defBody sLaw) (defScope sLaw) .none kV doc pm an cdv ct), osl⟩) (c : PySem.W.codeIn K cdv "law" = true) (k : PySem.W.keepIn K (.ref f) = true) :
    ∃ fd : FuncData, (∀ (s : Shared) (v : Value), BindsTo s fd ⟨[v], []⟩ [("_law_script", v)]) ∧ ∀ base : Heap, K.In base → base.Ns mainGlobals mg → FnOk P w K mg base CX0 10 fa fd ["_law_script"] (spLaw K) := by
  have e := hfa.symm.trans (PySem.W.mg_of X G a)
  cases e
  exact ⟨_, fun s v => .of_eq rfl, fun base _ _ => all_end t (fun_mk (st := sLaw) l c k) base⟩
theorem law_mk2 {P : Program} {w : World} {K : PySem.W.Frag} {h : Heap} {mg : PySem.Str → Option Value} {C fa f : Addr} {od an : Option Addr} {osl : Array (Option Value)} {oc kV doc pm cdv ct : Value} (X : K.In h) (G : h.Ns mainGlobals mg) (hfa : mg "law" = some (.ref fa))
    (aC : PySem.W.nsIn K mainGlobals "Rules" = some (some (.ref C))) (t : mg "Rules" = some (.ref C) → TopR K mg C)
    (a : PySem.W.nsIn K mainGlobals "law" = some (some (.ref f))) (l : K.lookup f = some ⟨oc, od, .func (PySem.W.fnOf "law" "law" (defArgs sLaw) (defBody sLaw) (defScope sLaw) .none kV doc pm an cdv ct), osl⟩) (c : PySem.W.codeIn K cdv "law" = true) (k : PySem.W.keepIn K (.ref f) = true) :
    ∃ fd : FuncData, (∀ (s : Shared) (v : Value), BindsTo s fd ⟨[v], []⟩ [("_law_script", v)]) ∧ ∀ base : Heap, K.In base → base.Ns mainGlobals mg → FnOk P w K mg base CX0 10 fa fd ["_law_script"] (spLaw K) :=
  law_mk X G hfa (t (PySem.W.mg_of X G aC)) a l c k
theorem cl_of {K : PySem.W.Frag} {mg : PySem.Str → Option Value} {C : Addr} (hC : mg "Rules" = some (.ref C)) (pg : PySem.W.plainGet K C Str.empty = true) (hd : PySem.W.hasDictIn K C = true) (po : PySem.W.plainOver K C = true) (sa : PySem.W.findIn K (.ref C) "__setattr__" = some (some (.builtin "object.__setattr__")))
    (nM : PySem.W.findIn K (.ref C) "its_marks" = some none) (nR : PySem.W.findIn K (.ref C) "its_rows" = some none) : Cl K mg C := ⟨⟨pg, hd, po, sa⟩, nM, nR, hC⟩
theorem mke_of {K : PySem.W.Frag} {C g : Addr} (a : PySem.W.findIn K (.ref C) "__init__" = some (some (.ref g))) (i : PySem.W.isFn K (.ref g) = true) (m : PySem.W.makesIn K C = true) (k : PySem.W.keepIn K (.ref C) = true) :
    ∀ f, PySem.W.findIn K (.ref C) "__init__" = some (some (.ref f)) → Mk K C f := fun f e => by
  have z := a.symm.trans e
  injection z with z
  injection z with z
  injection z with z
  subst z
  exact ⟨m, a, i, k⟩
theorem ao_of {K : PySem.W.Frag} {C g : Addr} {fo ro : Option Value} (a : PySem.W.findIn K (.ref C) "__add__" = some (some (.ref g))) (i : PySem.W.isFn K (.ref g) = true) (s : PySem.W.selfFirst K C = true) (r : PySem.W.findIn K (.ref C) "__radd__" = some none)
    (u : PySem.W.subIn K (.type "tuple") (.ref C) = some false) (t1 : PySem.W.findIn K (.type "tuple") "__add__" = some fo) (t2 : PySem.W.findIn K (.type "tuple") "__radd__" = some ro) : ∃ g, AddO K C g := by
  have e1 : PySem.dunder "add" = ("__add__" : PySem.Str) := by decide +kernel
  have e2 : PySem.dunderR "add" = ("__radd__" : PySem.Str) := by decide +kernel
  exact ⟨g, by rw [e1]; exact a, i, s, by rw [e2]; exact r, u, ⟨fo, by rw [e1]; exact t1⟩, ⟨ro, by rw [e2]; exact t2⟩⟩
theorem walk {l : PySem.W.OpenLaw} {q : Program} {loose : List PySem.Str} {XP : (PySem.Str → Option Value) → Heap → Prop} {YP : World → Heap → Prop} {d : DefRec} {K : Params → PySem.W.Frag} (hn : l.most = some 63) (hdf : d.params.defaults = [])
    (hY : ∀ (w : World) (h : Heap), YP w h → (K w.params).In h)
    (F : ∀ (w : World) (mg : PySem.Str → Option Value) (fa : Addr) (h : Heap), (K w.params).In h → h.Ns mainGlobals mg → mg d.name = some (.ref fa) →
      ∃ fd : FuncData, (∀ (s : Shared) (u : Value), BindsTo s fd ⟨[u], []⟩ [("_law_script", u)]) ∧ ∀ base : Heap, (K w.params).In base → base.Ns mainGlobals mg → FnOk l.prog w (K w.params) mg base CX0 10 fa fd ["_law_script"] (spLaw (K w.params))) :
    PySem.W.WalkO q loose XP YP l.row.toRowW d [] (fun f vs => PySem.call f vs) :=
  L2.walk_of (n := 63) (k := 10) (x := "_law_script") (CX := fun _ => CX0) (sp := fun w => spLaw (K w.params)) hn (by decide) hdf ⟨rfl, by decide, by decide⟩ hY F (fun _ _ a ns hl _ hS => ⟨a, ns, rfl, hS, fun _ => rfl⟩) fun _ _ _ _ _ z => z
end K16
/-! K16Fin: the law. -/
open PySem PySem.W PyProof.Rows in
set_option maxRecDepth 100000 in
set_option maxHeartbeats 0 in
theorem PySem.Challenge.cw_thesesothose_k16_whole_closings_of_rules_holds : PySem.Challenge.rw_thesesothose_k16_whole_closings_of_rules.Holds := by
  w_on; o_law; k_head; (case hw => w_witness2)
  k_fill
  refine K16.walk (l := PySem.Challenge.rw_thesesothose_k16_whole_closings_of_rules) rfl rfl (fun w h Y => PySem.W.kIn_of Y) ?F
  case F =>
    intro w mg fa h KX G hmg
    refine' K16.law_mk2 KX G hmg ?aC ?t ?a ?l ?c ?k
    (case aC => k_is)
    (case a => k_is)
    (case l => k_is)
    (case c => k_is)
    (case k => k_is)
    case t =>
      intro hC
      constructor
      (case B => exact ⟨PySem.W.mg_none_of KX G (by k_is), PySem.W.mg_none_of KX G (by k_is), PySem.W.mg_none_of KX G (by k_is), PySem.W.mg_none_of KX G (by k_is), PySem.W.mg_none_of KX G (by k_is), PySem.W.mg_none_of KX G (by k_is), PySem.W.mg_none_of KX G (by k_is), PySem.W.mg_none_of KX G (by k_is), PySem.W.mg_none_of KX G (by k_is), PySem.W.mg_none_of KX G (by k_is), PySem.W.mg_none_of KX G (by k_is), PySem.W.mg_none_of KX G (by k_is)⟩)
      (case T => exact K16.cl_of hC (by k_is) (by k_is) (by k_is) (by k_is) (by k_is) (by k_is))
      (case tk => exact ⟨_, PySem.W.mg_of KX G (by k_is)⟩)
      (case mke => exact K16.mke_of (by k_is) (by k_is) (by k_is) (by k_is))
      (case co => exact ⟨_, ⟨by k_is, by k_is, by k_is⟩⟩)
      (case ao => exact K16.ao_of (by k_is) (by k_is) (by k_is) (by k_is) (by k_is) (by k_is) (by k_is))
      (case pr => exact K16.prp_of (by k_is) (by k_is) (by k_is) (by k_is) (by k_is) (by k_is) (by k_is))
      (case dLotOf => exact K16.at_of K16.bfLotOf KX G (by k_is) (by k_is) (by k_is) (by k_is))
      (case dRank => exact K16.at_of K16.bfRank KX G (by k_is) (by k_is) (by k_is) (by k_is))
      (case dInOrder => exact K16.at_of K16.bfInOrder KX G (by k_is) (by k_is) (by k_is) (by k_is))
      (case dAllLots => exact K16.at_of K16.bfAllLots KX G (by k_is) (by k_is) (by k_is) (by k_is))
      (case dWithin => exact K16.at_of K16.bfWithin KX G (by k_is) (by k_is) (by k_is) (by k_is))
      (case dJoined => exact K16.at_of K16.bfJoined KX G (by k_is) (by k_is) (by k_is) (by k_is))
      (case dCommon => exact K16.at_of K16.bfCommon KX G (by k_is) (by k_is) (by k_is) (by k_is))
      (case dIsInteger => exact K16.at_of K16.bfIsInteger KX G (by k_is) (by k_is) (by k_is) (by k_is))
      (case dIsMark => exact K16.at_of K16.bfIsMark KX G (by k_is) (by k_is) (by k_is) (by k_is))
      (case dIsLot => exact K16.at_of K16.bfIsLot KX G (by k_is) (by k_is) (by k_is) (by k_is))
      (case dIsRule => exact K16.at_of K16.bfIsRule KX G (by k_is) (by k_is) (by k_is) (by k_is))
      (case dBreaks => exact K16.at_of K16.bfBreaks KX G (by k_is) (by k_is) (by k_is) (by k_is))
      (case dIsRuleOf => exact K16.at_of K16.bfIsRuleOf KX G (by k_is) (by k_is) (by k_is) (by k_is))
      (case dAreRulesOf => exact K16.at_of K16.bfAreRulesOf KX G (by k_is) (by k_is) (by k_is) (by k_is))
      (case dBag => exact K16.at_of K16.bfBag KX G (by k_is) (by k_is) (by k_is) (by k_is))
      (case dTake => exact K16.at_of K16.bfTake KX G (by k_is) (by k_is) (by k_is) (by k_is))
      (case dMixed => exact K16.at_of K16.bfMixed KX G (by k_is) (by k_is) (by k_is) (by k_is))
      (case dOne => exact K16.at_of K16.bfOne KX G (by k_is) (by k_is) (by k_is) (by k_is))
      (case dLMarks => exact K16.at_of K16.bfLMarks KX G (by k_is) (by k_is) (by k_is) (by k_is))
      (case dLot => exact K16.at_of K16.bfLot KX G (by k_is) (by k_is) (by k_is) (by k_is))
      (case dFew => exact K16.at_of K16.bfFew KX G (by k_is) (by k_is) (by k_is) (by k_is))
      (case dRule => exact K16.at_of K16.bfRule KX G (by k_is) (by k_is) (by k_is) (by k_is))
      (case dSomeRows => exact K16.at_of K16.bfSomeRows KX G (by k_is) (by k_is) (by k_is) (by k_is))
      (case dPairRight => exact K16.at_of K16.bfPairRight KX G (by k_is) (by k_is) (by k_is) (by k_is))
      (case dMoreRight => exact K16.at_of K16.bfMoreRight KX G (by k_is) (by k_is) (by k_is) (by k_is))
      (case mInit => exact K16.mat_of K16.bfInit (by k_is) (by k_is) (by k_is) (by k_is) (by k_is))
      (case mRows => exact K16.mat_of K16.bfRows (by k_is) (by k_is) (by k_is) (by k_is) (by k_is))
      (case mNeedRow => exact K16.mat_of K16.bfNeedRow (by k_is) (by k_is) (by k_is) (by k_is) (by k_is))
      (case mLen => exact K16.mat_of K16.bfLen (by k_is) (by k_is) (by k_is) (by k_is) (by k_is))
      (case mClosing => exact K16.mat_of K16.bfClosing (by k_is) (by k_is) (by k_is) (by k_is) (by k_is))
      (case mCall => exact K16.mat_of K16.bfCall (by k_is) (by k_is) (by k_is) (by k_is) (by k_is))
      (case mBrokenBy => exact K16.mat_of K16.bfBrokenBy (by k_is) (by k_is) (by k_is) (by k_is) (by k_is))
      (case mContains => exact K16.mat_of K16.bfContains (by k_is) (by k_is) (by k_is) (by k_is) (by k_is))
      (case mAdd => exact K16.mat_of K16.bfAdd (by k_is) (by k_is) (by k_is) (by k_is) (by k_is))
      (case mWithout => exact K16.mat_of K16.bfWithout (by k_is) (by k_is) (by k_is) (by k_is) (by k_is))
      (case mFollows => exact K16.mat_of K16.bfFollows (by k_is) (by k_is) (by k_is) (by k_is) (by k_is))
