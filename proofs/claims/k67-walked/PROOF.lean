import PyProof.Rows.All
import Wide.All
import OpenK.AllK
import Wide.FinOn
import KE.KStateDown
import HandS.ForMost
import HandS.Defaults
import HandS.Lambda
import HandS.HeadHook4
import PySem.Challenge.RW_figuresort_k67_whole_desk_walked
import HandS.Head0
import HandS.Head1
import HandS.Head2
import HandS.HeadWalk
import KE.SortKeyHeap
import HandS.SortKw
import HandS.Nested
import HandS.Conv
import KE.DatumOrd
import HandS.Strs
import HandS.SetFor
import HandS.Rev
import HandS.IsInst
import HandS.NoneIn
import HandS.Steps
import HandS.Style
import HandS.StrMore
import HandS.Wide
import HandS.RaiseMore
import KE.DataEq
import PyProof.NeKinds
import HandS.Replace
import HandS.Walk
import HandS.Zip
import HandS.RevRange
import HandS.Codes
import HandS.DeepEq
set_option Elab.async false
set_option linter.all false
set_option maxRecDepth 100000
set_option maxHeartbeats 4000000
/-! Figuresort: the base of the proof: owned objects, callees, the head's facts. -/
namespace Fs
open PySem PySem.Spec PyProof.Rows L2
def top (i : Nat) : Stmt := PySem.Challenge.pw_figuresort_k67_whole_desk_walked.main.body.getD i (.Pass ⟨0, 0, 0, 0⟩)

/-! ### what is owned -/
abbrev TL := List (Addr × Str)
/-- G: what stands still; l: the objects that the def at hand may change; T: the tables of code objects -/
structure Own (T : TL) (G H : Hp) (l : List (Addr × HO)) : Prop where
  sub : Same G H
  at_ : ∀ e ∈ l, H e.1 = some e.2
  out : ∀ e ∈ l, G e.1 = none
  nd : (l.map (·.1)).Nodup
  tabs : ∀ p ∈ T, G p.1 = none ∧ p.1 ∉ l.map (·.1) ∧ ∃ ps : Array Value, H p.1 = some (.tbl ps) ∧ TriplesOk ps.toList ∧ ∀ (pos : Pos) (cv : Value), codeAmong pos ps.toList = some cv → ∃ c, cv = .ref c ∧ G c = some (LamX.CodeO c p.2)
section
variable {T : TL} {G G' H H' : Hp} {l r : List (Addr × HO)} {p q : Addr} {o o' : HO} {K : PySem.W.Frag} {xs : List V}
theorem same_upd (np : H p = none) : Same H (upd H p o) := fun b x e => by
  rw [upd_ne (ne_of_none e np)]
  exact e
theorem own_new (O : Own T G H l) (np : H p = none) : Own T G (upd H p o) ((p, o) :: l) := by
  have nl : ∀ e ∈ l, e.1 ≠ p := fun e he => ne_of_none (O.at_ e he) np
  refine ⟨O.sub.trans (same_upd np), fun e he => ?_, fun e he => ?_, ?_, fun t ht => ?_⟩
  · rcases List.mem_cons.mp he with rfl | he
    · exact upd_same
    · rw [upd_ne (nl e he)]
      exact O.at_ e he
  · rcases List.mem_cons.mp he with rfl | he
    · exact O.sub.free np
    · exact O.out e he
  · refine List.nodup_cons.mpr ⟨fun h => ?_, O.nd⟩
    obtain ⟨e, he, e1⟩ := List.mem_map.mp h
    exact nl e he e1
  · obtain ⟨h1, h2, ps, h3, h4, h5⟩ := O.tabs t ht
    have hne : t.1 ≠ p := ne_of_none h3 np
    refine ⟨h1, fun h => ?_, ps, by rw [upd_ne hne]; exact h3, h4, h5⟩
    rcases List.mem_cons.mp h with h | h
    · exact hne h
    · exact h2 h
theorem own_set (O : Own T G H l) (i : Nat) (hi : l[i]? = some (p, o)) : Own T G (upd H p o') (l.set i (p, o')) := by
  obtain ⟨hl, hp⟩ := List.getElem?_eq_some_iff.mp hi
  have hm : (p, o) ∈ l := List.mem_of_getElem? hi
  have Gp := O.out _ hm
  have e1 : (l.set i (p, o')).map (·.1) = l.map (·.1) := by
    apply List.ext_getElem?
    intro j
    rw [List.getElem?_map, List.getElem?_map, List.getElem?_set]
    by_cases h : i = j
    · subst h
      rw [if_pos rfl, if_pos hl, hi]
      rfl
    · rw [if_neg h]
  have hat : ∀ e ∈ l.set i (p, o'), e = (p, o') ∨ (e ∈ l ∧ e.1 ≠ p) := fun e he => by
    obtain ⟨j, hj⟩ := List.getElem?_of_mem he
    rw [List.getElem?_set] at hj
    by_cases h : i = j
    · subst h
      rw [if_pos rfl, if_pos hl] at hj
      exact .inl (Option.some.inj hj).symm
    · rw [if_neg h] at hj
      refine .inr ⟨List.mem_of_getElem? hj, fun h2 => h ?_⟩
      have a : (l.map (·.1))[i]? = some p := by rw [List.getElem?_map, hi]; rfl
      have b : (l.map (·.1))[j]? = some p := by rw [List.getElem?_map, hj]; exact congrArg some h2
      obtain ⟨a1, a2⟩ := List.getElem?_eq_some_iff.mp a
      obtain ⟨b1, b2⟩ := List.getElem?_eq_some_iff.mp b
      exact (List.getElem_inj O.nd).mp (a2.trans b2.symm)
  refine ⟨fun b x e => ?_, fun e he => ?_, fun e he => ?_, by rw [e1]; exact O.nd, fun t ht => ?_⟩
  · rw [upd_ne (fun h => by rw [h, Gp] at e; cases e)]
    exact O.sub b x e
  · rcases hat e he with rfl | ⟨h1, h2⟩
    · exact upd_same
    · rw [upd_ne h2]
      exact O.at_ e h1
  · rcases hat e he with rfl | ⟨h1, h2⟩
    · exact Gp
    · exact O.out e h1
  · obtain ⟨h1, h2, ps, h3, h4, h5⟩ := O.tabs t ht
    have hne : t.1 ≠ p := fun h => h2 (by rw [h]; exact List.mem_map.mpr ⟨_, hm, rfl⟩)
    exact ⟨h1, by rw [e1]; exact h2, ps, by rw [upd_ne hne]; exact h3, h4, h5⟩
theorem Own.drop (O : Own T G H ((p, o) :: l)) : Own T G H l :=
  ⟨O.sub, fun e he => O.at_ e (List.mem_cons_of_mem _ he), fun e he => O.out e (List.mem_cons_of_mem _ he), (List.nodup_cons.mp O.nd).2, fun t ht =>
    let ⟨h1, h2, h3⟩ := O.tabs t ht
    ⟨h1, fun h => h2 (List.mem_cons_of_mem _ h), h3⟩⟩
theorem Own.perm (O : Own T G H l) (h : l.Perm r) : Own T G H r :=
  ⟨O.sub, fun e he => O.at_ e (h.mem_iff.mpr he), fun e he => O.out e (h.mem_iff.mpr he), (h.map _).nodup_iff.mp O.nd, fun t ht =>
    let ⟨h1, h2, h3⟩ := O.tabs t ht
    ⟨h1, fun q => h2 ((h.map _).mem_iff.mpr q), h3⟩⟩
theorem Own.swap {e f : Addr × HO} (O : Own T G H (e :: f :: l)) : Own T G H (f :: e :: l) := O.perm (List.Perm.swap f e l)
theorem Own.rot {e f g : Addr × HO} (O : Own T G H (e :: f :: g :: l)) : Own T G H (g :: e :: f :: l) := (O.perm ((List.Perm.swap g f l).cons e)).swap
theorem Own.l0 (O : Own T G H ((p, o) :: l)) : H p = some o := O.at_ (p, o) (List.mem_cons_self ..)
theorem Own.l1 {e : Addr × HO} (O : Own T G H (e :: (p, o) :: l)) : H p = some o := O.drop.l0
theorem Own.l2 {e f : Addr × HO} (O : Own T G H (e :: f :: (p, o) :: l)) : H p = some o := O.drop.l1
theorem Own.l3 {e f g : Addr × HO} (O : Own T G H (e :: f :: g :: (p, o) :: l)) : H p = some o := O.drop.l2
theorem Own.l4 {e f g h : Addr × HO} (O : Own T G H (e :: f :: g :: h :: (p, o) :: l)) : H p = some o := O.drop.l3
theorem Own.l5 {e f g h i : Addr × HO} (O : Own T G H (e :: f :: g :: h :: i :: (p, o) :: l)) : H p = some o := O.drop.l4
theorem Own.seq (O : Own T G H l) {a : Addr} (h : SqL K G a xs) : SqL K H a xs := O.sub.seq h
theorem Same.tup {a : Addr} (e : Same H H') (h : SqT K H a xs) : SqT K H' a xs := by
  rcases h with (h | ⟨o, h⟩) | h
  · exact .inl (.inl (e _ _ h))
  · exact .inl (.inr ⟨o, e _ _ h⟩)
  · exact .inr h
theorem Own.tup (O : Own T G H l) {a : Addr} (h : SqT K G a xs) : SqT K H a xs := Same.tup O.sub h
/-- an owned object stands still from now on -/
theorem Own.frz (O : Own T G H ((p, o) :: l)) : Own T (upd G p o) H l := by
  have Gp := O.out _ (List.mem_cons_self ..)
  have nl : ∀ e ∈ l, e.1 ≠ p := fun e he h => (List.nodup_cons.mp O.nd).1 (by rw [← h]; exact List.mem_map.mpr ⟨e, he, rfl⟩)
  refine ⟨fun b x e => ?_, O.drop.at_, fun e he => ?_, O.drop.nd, fun t ht => ?_⟩
  · by_cases hb : b = p
    · subst hb
      rw [upd_same] at e
      rw [← e]
      exact O.l0
    · rw [upd_ne hb] at e
      exact O.sub b x e
  · rw [upd_ne (nl e he)]
    exact O.drop.out e he
  · obtain ⟨h1, h2, ps, h3, h4, h5⟩ := O.tabs t ht
    have hne : t.1 ≠ p := fun h => h2 (by rw [h]; exact List.mem_cons_self ..)
    refine ⟨by rw [upd_ne hne]; exact h1, fun h => h2 (List.mem_cons_of_mem _ h), ps, h3, h4, fun pos cv hc => ?_⟩
    obtain ⟨c, e1, e2⟩ := h5 pos cv hc
    exact ⟨c, e1, by rw [upd_ne (ne_of_none e2 Gp)]; exact e2⟩
theorem Own.gup (O : Own T G H ((p, o) :: l)) : Same G (upd G p o) := same_upd (O.out _ (List.mem_cons_self ..))
/-- what stood still may be changed again, if nothing else leans on it -/
theorem Own.thaw (Gp : G p = none) (hT : p ∉ T.map (·.1)) (hc : ∀ c q, o ≠ LamX.CodeO c q) (O : Own T (upd G p o) H l) : Own T G H ((p, o) :: l) := by
  have s : Same G (upd G p o) := same_upd Gp
  refine ⟨s.trans O.sub, fun e he => ?_, fun e he => ?_, ?_, fun t ht => ?_⟩
  · rcases List.mem_cons.mp he with rfl | he
    · exact O.sub _ _ upd_same
    · exact O.at_ e he
  · rcases List.mem_cons.mp he with rfl | he
    · exact Gp
    · exact s.free (O.out e he)
  · refine List.nodup_cons.mpr ⟨fun h => ?_, O.nd⟩
    obtain ⟨e, he, e1⟩ := List.mem_map.mp h
    have z := O.out e he
    have e1 : e.1 = p := e1
    rw [e1, upd_same] at z
    cases z
  · obtain ⟨h1, h2, ps, h3, h4, h5⟩ := O.tabs t ht
    have hne : t.1 ≠ p := fun h => hT (by rw [← h]; exact List.mem_map.mpr ⟨t, ht, rfl⟩)
    refine ⟨s.free h1, fun h => ?_, ps, h3, h4, fun pos cv hcv => ?_⟩
    · rcases List.mem_cons.mp h with h | h
      · exact hne h
      · exact h2 h
    · obtain ⟨c, e1, e2⟩ := h5 pos cv hcv
      refine ⟨c, e1, ?_⟩
      by_cases hb : c = p
      · subst hb
        rw [upd_same] at e2
        exact absurd (Option.some.inj e2) (hc _ _)
      · rw [upd_ne hb] at e2
        exact e2
/-- more objects at once: a callee that keeps all that was -/
theorem Own.same (O : Own T G H l) (s : Same H H') : Own T G H' l :=
  ⟨O.sub.trans s, fun e he => s _ _ (O.at_ e he), O.out, O.nd, fun t ht =>
    let ⟨h1, h2, ps, h3, h4⟩ := O.tabs t ht
    ⟨h1, h2, ps, s _ _ h3, h4⟩⟩
end

/-! ### callees -/
structure Cal (P : Program) (w : World) (K : PySem.W.Frag) (mg : Str → Option Value) (base : Heap) (k : Nat) (x : Str) (ps : List Str) (sp : Sp) : Prop where
  ex : ∃ (f : Addr) (fd : FuncData), FnOk P w K mg base CX0 k f fd ps sp ∧ mg x = some (.ref f) ∧ PySem.W.keepIn K (.ref f) = true ∧ Binds K fd ps []
/-- a method of the class at C -/
structure MCal (P : Program) (w : World) (K : PySem.W.Frag) (mg : Str → Option Value) (base : Heap) (k : Nat) (C : Addr) (m : Str) (ps : List Str) (sp : Sp) : Prop where
  ex : ∃ (f : Addr) (fd : FuncData), FnOk P w K mg base CX0 k f fd ps sp ∧ Cls K C ∧ Meth K C m f ∧ Binds K fd ps []
/-- a class's making -/
structure KCal (P : Program) (w : World) (K : PySem.W.Frag) (mg : Str → Option Value) (base : Heap) (k : Nat) (C : Addr) (x : Str) (ps : List Str) (sp : Sp) : Prop where
  ex : ∃ (f : Addr) (fd : FuncData), FnOk P w K mg base CX0 k f fd ps sp ∧ mg x = some (.ref C) ∧ Mk K C f ∧ Binds K fd ps []
section
variable {X : Cx} {x m : Str} {ps : List Str} {sp : Sp} {k : Nat} {e o : Expr} {es : List Expr} {t : TA} {to : TE} {p pos apos : Pos} {C : Addr}
theorem pe_cal {j : Nat} (c : Cal X.prog X.w X.K X.mg X.base k x ps sp) (hr : Room j X.A) (ha : PA X (e :: es) t) (hj : k ≤ j := by decide) (hg : Gl X x := by rfl) (hdb : (x == ("__debug__" : Str)) = false := by decide)
    (he : starEach (e :: es) X.env = (false, eval e X.env) :: starEach es X.env := by rfl) (hpl : (backTo pos (starEach es X.env)).any (·.1) = false := by rfl) :
    PE X (.Call (.Name x p) (e :: es) [] pos) (tCall sp [] E0 t) := by
  obtain ⟨f, fd, F, hm, hk, hb⟩ := c.ex
  exact pe_call F (hr.mono hj) hg hm hk hb .nil pass0 ha hdb he hpl
theorem pe_mcal {j : Nat} {pl : Sem Bool} (ho : PE X o to) (c : MCal X.prog X.w X.K X.mg X.base k C m ps sp) (hr : Room j X.A) (ha : PA X (e :: es) t) (hj : k ≤ j := by decide)
    (hst : starEach (e :: es) X.env = (false, eval e X.env) :: starEach es X.env := by rfl) (hpl : (backTo pos (starEach es X.env)).any (·.1) = false := by rfl)
    (ht : eval (.Call (.Attribute o m apos) (e :: es) [] pos) X.env = (do
      let ov ← eval o X.env
      standAt apos.atName
      let (f, first) ← holding [ov] (getMethod ov m pl)
      callWith pos f first (backTo pos (starEach (e :: es) X.env)) (backToKw pos (keywordEach [] X.env))) := by rfl) :
    PE X (.Call (.Attribute o m apos) (e :: es) [] pos) (tMeth C m sp [] E0 to t) := by
  obtain ⟨f, fd, F, cl, hm, hb⟩ := c.ex
  exact pe_meth ho cl hm F (hr.mono hj) hb .nil pass0 ha hst hpl ht
theorem pe_mcal0 {j : Nat} {pl : Sem Bool} (ho : PE X o to) (c : MCal X.prog X.w X.K X.mg X.base k C m ps sp) (hr : Room j X.A) (hj : k ≤ j := by decide)
    (ht : eval (.Call (.Attribute o m apos) [] [] pos) X.env = (do
      let ov ← eval o X.env
      standAt apos.atName
      let (f, first) ← holding [ov] (getMethod ov m pl)
      callWith pos f first (backTo pos (starEach [] X.env)) (backToKw pos (keywordEach [] X.env))) := by rfl) :
    PE X (.Call (.Attribute o m apos) [] [] pos) (tMeth C m sp [] E0 to tNil) := by
  obtain ⟨f, fd, F, cl, hm, hb⟩ := c.ex
  exact pe_meth0 ho cl hm F (hr.mono hj) hb .nil pass0 ht
theorem pe_kcal {j : Nat} (c : KCal X.prog X.w X.K X.mg X.base k C x ps sp) (hr : Room j X.A) (ha : PA X (e :: es) t) (hj : k + 1 ≤ j := by decide) (hg : Gl X x := by rfl) (hdb : (x == ("__debug__" : Str)) = false := by decide)
    (he : starEach (e :: es) X.env = (false, eval e X.env) :: starEach es X.env := by rfl) (hpl : (backTo pos (starEach es X.env)).any (·.1) = false := by rfl) :
    PE X (.Call (.Name x p) (e :: es) [] pos) (tMake C sp [] E0 t) := by
  obtain ⟨f, fd, F, hm, hk, hb⟩ := c.ex
  exact pe_make hk F (hr.mono hj) hg hm hb .nil pass0 ha hdb he hpl
theorem pe_kcal0 {j : Nat} (c : KCal X.prog X.w X.K X.mg X.base k C x ps sp) (hr : Room j X.A) (hj : k + 1 ≤ j := by decide) (hg : Gl X x := by rfl) (hdb : (x == ("__debug__" : Str)) = false := by decide) :
    PE X (.Call (.Name x p) [] [] pos) (tMake C sp [] E0 tNil) := by
  obtain ⟨f, fd, F, hm, hk, hb⟩ := c.ex
  exact pe_make0 hk F (hr.mono hj) hg hm hb .nil pass0 hdb
/-- module constants -/
theorem pe_gs {z : Str} (h : ∃ t, X.mg x = some (.str z t)) (hg : Gl X x := by rfl) (hd : (x == ("__debug__" : Str)) = false := by decide) : PE X (.Name x pos) (tC (.str z)) := by
  obtain ⟨t, h⟩ := h
  exact pe_glob hg h ⟨t, rfl⟩ hd
theorem pe_gi {z : Int} (h : ∃ t, X.mg x = some (.int z t)) (hg : Gl X x := by rfl) (hd : (x == ("__debug__" : Str)) = false := by decide) : PE X (.Name x pos) (tC (.int z)) := by
  obtain ⟨t, h⟩ := h
  exact pe_glob hg h ⟨t, rfl⟩ hd
theorem pe_gr {a : Addr} (h : X.mg x = some (.ref a)) (hg : Gl X x := by rfl) (hd : (x == ("__debug__" : Str)) = false := by decide) : PE X (.Name x pos) (tC (.ref a)) := pe_glob hg h rfl hd
end
end Fs

set_option maxHeartbeats 0
/-! The head: what the program's top leaves, by names. -/
namespace Fs
open PySem PySem.Spec PyProof.Rows L2
def dd_counts : He.DefD := ⟨("counts", none), "counts", "counts", defArgs (top 1), defBody (top 1), defScope (top 1), [], []⟩
def dd_begins : He.DefD := ⟨("begins", none), "begins", "begins", defArgs (top 2), defBody (top 2), defScope (top 2), [], []⟩
def dd_is_place : He.DefD := ⟨("is_place", none), "is_place", "is_place", defArgs (top 16), defBody (top 16), defScope (top 16), [], []⟩
def dd_is_order : He.DefD := ⟨("is_order", none), "is_order", "is_order", defArgs (top 17), defBody (top 17), defScope (top 17), [], []⟩
def dd_look_order : He.DefD := ⟨("look_order", none), "look_order", "look_order", defArgs (top 18), defBody (top 18), defScope (top 18), [], []⟩
def dd_look_as_many : He.DefD := ⟨("look_as_many", none), "look_as_many", "look_as_many", defArgs (top 19), defBody (top 19), defScope (top 19), [], []⟩
def dd_put : He.DefD := ⟨("put", none), "put", "put", defArgs (top 20), defBody (top 20), defScope (top 20), [], []⟩
def dd_back_of : He.DefD := ⟨("back_of", none), "back_of", "back_of", defArgs (top 21), defBody (top 21), defScope (top 21), [], []⟩
def dd_ring_from : He.DefD := ⟨("ring_from", none), "ring_from", "ring_from", defArgs (top 22), defBody (top 22), defScope (top 22), [], []⟩
def dd_rings : He.DefD := ⟨("rings", none), "rings", "rings", defArgs (top 23), defBody (top 23), defScope (top 23), [], []⟩
def dd_told_order : He.DefD := ⟨("told_order", none), "told_order", "told_order", defArgs (top 24), defBody (top 24), defScope (top 24), [], []⟩
def dd_Pour___init__ : He.DefD := ⟨("Pour", some "__init__"), "__init__", "Pour.__init__", defArgs (inClass (top 26) 0), defBody (inClass (top 26) 0), defScope (inClass (top 26) 0), [], []⟩
def dd_Pour_rising : He.DefD := ⟨("Pour", some "rising"), "rising", "Pour.rising", defArgs (inClass (top 26) 1), defBody (inClass (top 26) 1), defScope (inClass (top 26) 1), [], []⟩
def dd_Pour_pour : He.DefD := ⟨("Pour", some "pour"), "pour", "Pour.pour", defArgs (inClass (top 26) 2), defBody (inClass (top 26) 2), defScope (inClass (top 26) 2), [], []⟩
def dd_Pour_heaps : He.DefD := ⟨("Pour", some "heaps"), "heaps", "Pour.heaps", defArgs (inClass (top 26) 3), defBody (inClass (top 26) 3), defScope (inClass (top 26) 3), [], []⟩
def dd_Pour_order : He.DefD := ⟨("Pour", some "order"), "order", "Pour.order", defArgs (inClass (top 26) 4), defBody (inClass (top 26) 4), defScope (inClass (top 26) 4), [], []⟩
def dd_moves_of_ringwalk : He.DefD := ⟨("moves_of_ringwalk", none), "moves_of", "moves_of", defArgs (top 28), defBody (top 28), defScope (top 28), [], []⟩
def dd_RingWalk___init__ : He.DefD := ⟨("RingWalk", some "__init__"), "__init__", "RingWalk.__init__", defArgs (inClass (top 30) 0), defBody (inClass (top 30) 0), defScope (inClass (top 30) 0), [], []⟩
def dd_RingWalk_lift : He.DefD := ⟨("RingWalk", some "lift"), "lift", "RingWalk.lift", defArgs (inClass (top 30) 1), defBody (inClass (top 30) 1), defScope (inClass (top 30) 1), [], []⟩
def dd_RingWalk_step : He.DefD := ⟨("RingWalk", some "step"), "step", "RingWalk.step", defArgs (inClass (top 30) 2), defBody (inClass (top 30) 2), defScope (inClass (top 30) 2), [], []⟩
def dd_many_figures : He.DefD := ⟨("many_figures", none), "many_figures", "many_figures", defArgs (top 32), defBody (top 32), defScope (top 32), [], []⟩
def dd_figures : He.DefD := ⟨("figures", none), "figures", "figures", defArgs (top 33), defBody (top 33), defScope (top 33), [], []⟩
def dd_shared_factor : He.DefD := ⟨("shared_factor", none), "shared_factor", "shared_factor", defArgs (top 39), defBody (top 39), defScope (top 39), [], []⟩
def dd_least_bottom : He.DefD := ⟨("least_bottom", none), "least_bottom", "least_bottom", defArgs (top 40), defBody (top 40), defScope (top 40), [], []⟩
def dd_numbers_spelled : He.DefD := ⟨("numbers_spelled", none), "numbers_spelled", "numbers_spelled", defArgs (top 41), defBody (top 41), defScope (top 41), [], []⟩
def dd_letter_at : He.DefD := ⟨("letter_at", none), "letter_at", "letter_at", defArgs (top 42), defBody (top 42), defScope (top 42), [], []⟩
def dd_texts_spelled : He.DefD := ⟨("texts_spelled", none), "texts_spelled", "texts_spelled", defArgs (top 43), defBody (top 43), defScope (top 43), [], []⟩
def dd_spelled : He.DefD := ⟨("spelled", none), "spelled", "spelled", defArgs (top 44), defBody (top 44), defScope (top 44), [], []⟩
def dd_width_of : He.DefD := ⟨("width_of", none), "width_of", "width_of", defArgs (top 46), defBody (top 46), defScope (top 46), [], []⟩
def dd_put_by : He.DefD := ⟨("put_by", none), "put_by", "put_by", defArgs (top 47), defBody (top 47), defScope (top 47), [], []⟩
def dd_from_last : He.DefD := ⟨("from_last", none), "from_last", "from_last", defArgs (top 48), defBody (top 48), defScope (top 48), [], []⟩
def dd_parts_of : He.DefD := ⟨("parts_of", none), "parts_of", "parts_of", defArgs (top 51), defBody (top 51), defScope (top 51), [], []⟩
def dd_from_first : He.DefD := ⟨("from_first", none), "from_first", "from_first", defArgs (top 52), defBody (top 52), defScope (top 52), [], []⟩
def dd_runs : He.DefD := ⟨("runs", none), "runs", "runs", defArgs (top 56), defBody (top 56), defScope (top 56), [], []⟩
def dd_merged : He.DefD := ⟨("merged", none), "merged", "merged", defArgs (top 57), defBody (top 57), defScope (top 57), [], []⟩
def dd_round_of : He.DefD := ⟨("round_of", none), "round_of", "round_of", defArgs (top 58), defBody (top 58), defScope (top 58), [], []⟩
def dd_ahead_of_runs : He.DefD := ⟨("ahead_of_runs", none), "ahead_of_runs", "ahead_of_runs", defArgs (top 59), defBody (top 59), defScope (top 59), [], []⟩
def dd_joined : He.DefD := ⟨("joined", none), "joined", "joined", defArgs (top 60), defBody (top 60), defScope (top 60), [], []⟩
def dd_by_runs : He.DefD := ⟨("by_runs", none), "by_runs", "by_runs", defArgs (top 61), defBody (top 61), defScope (top 61), [], []⟩
def dd_done_by : He.DefD := ⟨("done_by", none), "done_by", "done_by", defArgs (top 71), defBody (top 71), defScope (top 71), [], []⟩
def dd_own_keys : He.DefD := ⟨("own_keys", none), "own_keys", "own_keys", defArgs (top 72), defBody (top 72), defScope (top 72), [], []⟩
def dd_ordered : He.DefD := ⟨("ordered", none), "ordered", "ordered", defArgs (top 73), defBody (top 73), defScope (top 73), [], []⟩
def dd_are_figures : He.DefD := ⟨("are_figures", none), "are_figures", "are_figures", defArgs (top 86), defBody (top 86), defScope (top 86), [], []⟩
def dd_number_read : He.DefD := ⟨("number_read", none), "number_read", "number_read", defArgs (top 87), defBody (top 87), defScope (top 87), [], []⟩
def dd_is_between : He.DefD := ⟨("is_between", none), "is_between", "is_between", defArgs (top 88), defBody (top 88), defScope (top 88), [], []⟩
def dd_part_read : He.DefD := ⟨("part_read", none), "part_read", "part_read", defArgs (top 89), defBody (top 89), defScope (top 89), [], []⟩
def dd_text_read : He.DefD := ⟨("text_read", none), "text_read", "text_read", defArgs (top 90), defBody (top 90), defScope (top 90), [], []⟩
def dd_key_read : He.DefD := ⟨("key_read", none), "key_read", "key_read", defArgs (top 91), defBody (top 91), defScope (top 91), [], []⟩
def dd_key_word : He.DefD := ⟨("key_word", none), "key_word", "key_word", defArgs (top 92), defBody (top 92), defScope (top 92), [], []⟩
def dd_numbers_word : He.DefD := ⟨("numbers_word", none), "numbers_word", "numbers_word", defArgs (top 93), defBody (top 93), defScope (top 93), [], []⟩
def dd_several : He.DefD := ⟨("several", none), "several", "several", defArgs (top 94), defBody (top 94), defScope (top 94), [], []⟩
def dd_Reading___init__ : He.DefD := ⟨("Reading", some "__init__"), "__init__", "Reading.__init__", defArgs (inClass (top 95) 0), defBody (inClass (top 95) 0), defScope (inClass (top 95) 0), [], []⟩
def dd_Reading_take : He.DefD := ⟨("Reading", some "take"), "take", "Reading.take", defArgs (inClass (top 95) 1), defBody (inClass (top 95) 1), defScope (inClass (top 95) 1), [], []⟩
def dd_Reading_take_kind : He.DefD := ⟨("Reading", some "take_kind"), "take_kind", "Reading.take_kind", defArgs (inClass (top 95) 2), defBody (inClass (top 95) 2), defScope (inClass (top 95) 2), [], []⟩
def dd_Reading_take_keys : He.DefD := ⟨("Reading", some "take_keys"), "take_keys", "Reading.take_keys", defArgs (inClass (top 95) 3), defBody (inClass (top 95) 3), defScope (inClass (top 95) 3), [], []⟩
def dd_Reading_take_ask : He.DefD := ⟨("Reading", some "take_ask"), "take_ask", "Reading.take_ask", defArgs (inClass (top 95) 4), defBody (inClass (top 95) 4), defScope (inClass (top 95) 4), [], []⟩
def dd_reading_of : He.DefD := ⟨("reading_of", none), "reading_of", "reading_of", defArgs (top 96), defBody (top 96), defScope (top 96), [], []⟩
def dd_move_word : He.DefD := ⟨("move_word", none), "move_word", "move_word", defArgs (top 98), defBody (top 98), defScope (top 98), [], []⟩
def dd_all_moves : He.DefD := ⟨("all_moves", none), "all_moves", "all_moves", defArgs (top 99), defBody (top 99), defScope (top 99), [], []⟩
def dd_Desk___init__ : He.DefD := ⟨("Desk", some "__init__"), "__init__", "Desk.__init__", defArgs (inClass (top 100) 0), defBody (inClass (top 100) 0), defScope (inClass (top 100) 0), [], []⟩
def dd_Desk_written : He.DefD := ⟨("Desk", some "written"), "written", "Desk.written", defArgs (inClass (top 100) 1), defBody (inClass (top 100) 1), defScope (inClass (top 100) 1), [], []⟩
def dd_Desk_own_order : He.DefD := ⟨("Desk", some "own_order"), "own_order", "Desk.own_order", defArgs (inClass (top 100) 2), defBody (inClass (top 100) 2), defScope (inClass (top 100) 2), [], []⟩
def dd_Desk_pour_so_far : He.DefD := ⟨("Desk", some "pour_so_far"), "pour_so_far", "Desk.pour_so_far", defArgs (inClass (top 100) 3), defBody (inClass (top 100) 3), defScope (inClass (top 100) 3), [], []⟩
def dd_Desk_poured_answer : He.DefD := ⟨("Desk", some "poured_answer"), "poured_answer", "Desk.poured_answer", defArgs (inClass (top 100) 4), defBody (inClass (top 100) 4), defScope (inClass (top 100) 4), [], []⟩
def dd_Desk_order_answer : He.DefD := ⟨("Desk", some "order_answer"), "order_answer", "Desk.order_answer", defArgs (inClass (top 100) 5), defBody (inClass (top 100) 5), defScope (inClass (top 100) 5), [], []⟩
def dd_Desk_answer : He.DefD := ⟨("Desk", some "answer"), "answer", "Desk.answer", defArgs (inClass (top 100) 6), defBody (inClass (top 100) 6), defScope (inClass (top 100) 6), [], []⟩
def dd_run : He.DefD := ⟨("run", none), "run", "run", defArgs (top 101), defBody (top 101), defScope (top 101), [], []⟩
def dd__law_tape : He.DefD := ⟨("_law_tape", none), "_law_tape", "_law_tape", defArgs (top 103), defBody (top 103), defScope (top 103), [], []⟩
def dd__law_draw : He.DefD := ⟨("_law_draw", none), "_law_draw", "_law_draw", defArgs (top 104), defBody (top 104), defScope (top 104), [], []⟩
def dd__law_many : He.DefD := ⟨("_law_many", none), "_law_many", "_law_many", defArgs (top 105), defBody (top 105), defScope (top 105), [], []⟩
def dd__law_base : He.DefD := ⟨("_law_base", none), "_law_base", "_law_base", defArgs (top 106), defBody (top 106), defScope (top 106), [], []⟩
def dd__law_key : He.DefD := ⟨("_law_key", none), "_law_key", "_law_key", defArgs (top 107), defBody (top 107), defScope (top 107), [], []⟩
def dd__law_part : He.DefD := ⟨("_law_part", none), "_law_part", "_law_part", defArgs (top 108), defBody (top 108), defScope (top 108), [], []⟩
def dd__law_keys : He.DefD := ⟨("_law_keys", none), "_law_keys", "_law_keys", defArgs (top 109), defBody (top 109), defScope (top 109), [], []⟩
def dd__law_order : He.DefD := ⟨("_law_order", none), "_law_order", "_law_order", defArgs (top 110), defBody (top 110), defScope (top 110), [], []⟩
def dd__law_words : He.DefD := ⟨("_law_words", none), "_law_words", "_law_words", defArgs (top 111), defBody (top 111), defScope (top 111), [], []⟩
def dd__law_sorted : He.DefD := ⟨("_law_sorted", none), "_law_sorted", "_law_sorted", defArgs (top 112), defBody (top 112), defScope (top 112), [], []⟩
def dd__law_rings : He.DefD := ⟨("_law_rings", none), "_law_rings", "_law_rings", defArgs (top 113), defBody (top 113), defScope (top 113), [], []⟩
def dd__law_walk : He.DefD := ⟨("_law_walk", none), "_law_walk", "_law_walk", defArgs (top 114), defBody (top 114), defScope (top 114), [], []⟩
def dd__law_parted : He.DefD := ⟨("_law_parted", none), "_law_parted", "_law_parted", defArgs (top 115), defBody (top 115), defScope (top 115), [], []⟩
def dd__law_heaped : He.DefD := ⟨("_law_heaped", none), "_law_heaped", "_law_heaped", defArgs (top 116), defBody (top 116), defScope (top 116), [], []⟩
def dd__law_are_answers : He.DefD := ⟨("_law_are_answers", none), "_law_are_answers", "_law_are_answers", defArgs (top 117), defBody (top 117), defScope (top 117), [], []⟩
def dd__law_great : He.DefD := ⟨("_law_great", none), "_law_great", "_law_great", defArgs (top 118), defBody (top 118), defScope (top 118), [], []⟩
def dd__law_deed : He.DefD := ⟨("_law_deed", none), "_law_deed", "_law_deed", defArgs (top 119), defBody (top 119), defScope (top 119), [], []⟩
def dd__law_ask : He.DefD := ⟨("_law_ask", none), "_law_ask", "_law_ask", defArgs (top 120), defBody (top 120), defScope (top 120), [], []⟩
def dd_law : He.DefD := ⟨("law", none), "law", "law", defArgs (top 121), defBody (top 121), defScope (top 121), [], []⟩
def fnl0 : List He.DefD := [dd_counts, dd_begins, dd_is_place, dd_is_order, dd_look_order, dd_look_as_many, dd_put, dd_back_of, dd_ring_from, dd_rings, dd_told_order, dd_Pour___init__, dd_Pour_rising, dd_Pour_pour, dd_Pour_heaps, dd_Pour_order, dd_moves_of_ringwalk, dd_RingWalk___init__, dd_RingWalk_lift, dd_RingWalk_step, dd_many_figures, dd_figures, dd_shared_factor, dd_least_bottom, dd_numbers_spelled, dd_letter_at, dd_texts_spelled, dd_spelled, dd_width_of, dd_put_by]
def fnl1 : List He.DefD := [dd_from_last, dd_parts_of, dd_from_first, dd_runs, dd_merged, dd_round_of, dd_ahead_of_runs, dd_joined, dd_by_runs, dd_done_by, dd_own_keys, dd_ordered, dd_are_figures, dd_number_read, dd_is_between, dd_part_read, dd_text_read, dd_key_read, dd_key_word, dd_numbers_word, dd_several, dd_Reading___init__, dd_Reading_take, dd_Reading_take_kind, dd_Reading_take_keys, dd_Reading_take_ask, dd_reading_of, dd_move_word, dd_all_moves, dd_Desk___init__]
def fnl2 : List He.DefD := [dd_Desk_written, dd_Desk_own_order, dd_Desk_pour_so_far, dd_Desk_poured_answer, dd_Desk_order_answer, dd_Desk_answer, dd_run, dd__law_tape, dd__law_draw, dd__law_many, dd__law_base, dd__law_key, dd__law_part, dd__law_keys, dd__law_order, dd__law_words, dd__law_sorted, dd__law_rings, dd__law_walk, dd__law_parted, dd__law_heaped, dd__law_are_answers, dd__law_great, dd__law_deed, dd__law_ask, dd_law]
def fnl : List He.DefD := fnl0 ++ (fnl1 ++ (fnl2))
def fal0 : List He.Fa := [.free "len", .free "range", .free "list", .free "tuple", .free "zip", .free "enumerate", .free "reversed", .free "sorted", .free "sum", .free "all", .free "int", .free "bool", .free "str", .free "abs", .free "isinstance", .free "set", .free "max", .free "min", .str "NUMBER" "number", .str "PART" "part", .str "LETTERS" "abcdefghijklmnopqrstuvwxyz", .int "TEXT_BASE" 27, .str "LAST" "last", .str "FIRST" "first", .str "RUNS" "runs", .str "FIGURES" "0123456789", .glo "KINDS", .glo "WAYS", .glo "ASKS", .int "MOST_FIGURES" 18]
def fal1 : List He.Fa := [.int "MOST_BOTTOM" 60, .int "MOST_LETTERS" 20, .int "MOST_KEYS" 200, .int "LEAST_BASE" 2, .int "MOST_BASE" 64, .str "NONE" "-", .glo "Pour", .cls "Pour", .mkr "Pour", .noat "Pour" "came", .noat "Pour" "own_heaps", .noat "Pour" "moved", .glo "RingWalk", .cls "RingWalk", .mkr "RingWalk", .noat "RingWalk" "own_things", .noat "RingWalk" "held", .noat "RingWalk" "waiting", .noat "RingWalk" "done", .glo "Reading", .cls "Reading", .mkr "Reading", .noat "Reading" "kind", .noat "Reading" "base", .noat "Reading" "taken", .noat "Reading" "poured", .glo "Desk", .cls "Desk", .mkr "Desk", .noat "Desk" "kind"]
def fal2 : List He.Fa := [.noat "Desk" "base", .noat "Desk" "own_keys", .noat "Desk" "own_pours", .glo "counts", .glo "begins", .glo "is_place", .glo "is_order", .glo "look_order", .glo "look_as_many", .glo "put", .glo "back_of", .glo "ring_from", .glo "rings", .glo "told_order", .meth "Pour" "rising", .meth "Pour" "pour", .meth "Pour" "heaps", .meth "Pour" "order", .glo "moves_of_ringwalk", .meth "RingWalk" "lift", .meth "RingWalk" "step", .glo "many_figures", .glo "figures", .glo "shared_factor", .glo "least_bottom", .glo "numbers_spelled", .glo "letter_at", .glo "texts_spelled", .glo "spelled", .glo "width_of"]
def fal3 : List He.Fa := [.glo "put_by", .glo "from_last", .glo "parts_of", .glo "from_first", .glo "runs", .glo "merged", .glo "round_of", .glo "ahead_of_runs", .glo "joined", .glo "by_runs", .glo "done_by", .glo "own_keys", .glo "ordered", .glo "are_figures", .glo "number_read", .glo "is_between", .glo "part_read", .glo "text_read", .glo "key_read", .glo "key_word", .glo "numbers_word", .glo "several", .meth "Reading" "take", .meth "Reading" "take_kind", .meth "Reading" "take_keys", .meth "Reading" "take_ask", .glo "reading_of", .glo "move_word", .glo "all_moves", .meth "Desk" "written"]
def fal4 : List He.Fa := [.meth "Desk" "own_order", .meth "Desk" "pour_so_far", .meth "Desk" "poured_answer", .meth "Desk" "order_answer", .meth "Desk" "answer", .glo "run", .glo "_law_tape", .glo "_law_draw", .glo "_law_many", .glo "_law_base", .glo "_law_key", .glo "_law_part", .glo "_law_keys", .glo "_law_order", .glo "_law_words", .glo "_law_sorted", .glo "_law_rings", .glo "_law_walk", .glo "_law_parted", .glo "_law_heaped", .glo "_law_are_answers", .glo "_law_great", .glo "_law_deed", .glo "_law_ask", .glo "law"]
def fal : List He.Fa := fal0 ++ (fal1 ++ (fal2 ++ (fal3 ++ (fal4))))
def loose0 : List Str := ["counts", "begins", "tally", "beginnings", "HeapWalk", "parted", "sorted_from", "heap_sorted", "SortError", "TooGreat", "BadOrder", "BadRow", "is_place", "is_order", "look_order", "look_as_many", "put", "back_of", "ring_from", "rings", "told_order", "Pour", "moves_of", "moves_of_ringwalk", "RingWalk", "many_figures", "figures", "NUMBER", "PART", "LETTERS"]
def loose1 : List Str := ["TEXT_BASE", "shared_factor", "least_bottom", "numbers_spelled", "letter_at", "texts_spelled", "spelled", "width_of", "put_by", "from_last", "ahead_of_last", "parts_of", "from_first", "children_of", "ahead_of_first", "runs", "merged", "round_of", "ahead_of_runs", "joined", "by_runs", "LAST", "FIRST", "RUNS", "columns_of", "moves_of_ways", "moves_ahead", "cheapest", "done_by", "own_keys"]
def loose2 : List Str := ["ordered", "FIGURES", "KINDS", "WAYS", "ASKS", "MOST_FIGURES", "MOST_BOTTOM", "MOST_LETTERS", "MOST_KEYS", "LEAST_BASE", "MOST_BASE", "NONE", "are_figures", "number_read", "is_between", "part_read", "text_read", "key_read", "key_word", "numbers_word", "several", "Reading", "reading_of", "move_word", "all_moves", "Desk", "run", "_law_tape", "_law_draw", "_law_many"]
def loose3 : List Str := ["_law_base", "_law_key", "_law_part", "_law_keys", "_law_order", "_law_words", "_law_sorted", "_law_rings", "_law_walk", "_law_parted", "_law_heaped", "_law_are_answers", "_law_great", "_law_deed", "_law_ask"]
def loose : List Str := loose0 ++ (loose1 ++ (loose2 ++ (loose3)))
def exl (K : PySem.W.Frag) : Bool := decide ((He.cT K ("told_order", none)).2 ≠ (He.cT K ("Pour", some "rising")).2) && (He.tupB K "KINDS" [.str "number", .str "part", .str "text"] && (He.tupB K "WAYS" [.str "last", .str "first", .str "runs"] && (He.tupB K "ASKS" [.str "order", .str "back", .str "rings", .str "ahead", .str "cheapest", .str "walk", .str "puts", .str "poured", .str "heaps"])))
abbrev tfl : List He.Defn := [("told_order", none), ("Pour", some "rising")]
abbrev RR : PySem.W.OpenRow := PySem.W.OpenLaw.row PySem.Challenge.rw_figuresort_k67_whole_desk_walked
/-- what a top's names reach: the objects, what these name, the dicts' things, what these name -/
def nextA (g : Addr → Option Obj) (a : Addr) : List Addr := ((g a).map He.refsD).getD []
def dictA (g : Addr → Option Obj) (a : Addr) : List Addr := match (g a).map Obj.data with
  | some (.dict _ _) => nextA g a
  | _ => []
def asL3 (g : Addr → Option Obj) (l3 : List Addr) : List Addr := l3 ++ l3.flatMap (nextA g)
def asL2 (g : Addr → Option Obj) (l2 : List Addr) : List Addr := l2 ++ asL3 g (l2.flatMap (dictA g))
def asL1 (g : Addr → Option Obj) (l1 : List Addr) : List Addr := l1 ++ asL2 g (l1.flatMap (nextA g))
def kL (g : Addr → Option Obj) : PySem.W.Frag := He.frT g (mainGlobals :: asL1 g (nextA g mainGlobals))
def obK (g : Addr → Option Obj) (K : PySem.W.Frag) : He.AlX := (He.obsT fal fnl [] K, exl K && He.tabsB g tfl K)
theorem says_k {g : Addr → Option Obj} {K : PySem.W.Frag} {w : World} {h : Heap} (hg : g = h.get?) (hK : ∀ a o, g a = some o → He.emptyTab o = true → K.lookup a = none) (e : obK g K = He.valX fnl [] w) : He.SaysX fal fnl [] tfl exl w h K := by
  subst hg
  have e2 := congrArg Prod.snd e
  obtain ⟨m1, m2⟩ := Bool.and_eq_true_iff.mp e2
  have look := fun p hp => Bool.and_eq_true_iff.mp (List.all_eq_true.mp m2 p hp)
  have tab : ∀ p ∈ tfl, ∃ o, h.get? (He.cT K p).2 = some o ∧ He.emptyTab o = true := fun p hp => by
    have z := (look p hp).2
    revert z
    cases h.get? (He.cT K p).2 with
    | none => exact fun z => nomatch z
    | some o => exact fun z => ⟨o, rfl, z⟩
  refine { t := congrArg Prod.fst e, more := m1, hd := fun p hp => (look p hp).1, out := fun p hp => ?_, empty := fun p hp => ?_ }
  · obtain ⟨o, eo, em⟩ := tab p hp
    exact hK _ o eo em
  · obtain ⟨o, eo, em⟩ := tab p hp
    exact eo.trans (congrArg some (He.emptyTab_eq em))
def hkl : PySem.W.Hook where
  α := He.AlX
  obs := fun s => obK s.heap.get? (kL s.heap.get?)
  val := He.valX fnl []
  says := fun w h => ∃ K : PySem.W.Frag, K.In h ∧ He.SaysX fal fnl [] tfl exl w h K
  of := fun _ _ e => ⟨_, He.frT_in, says_k rfl (fun _ _ a b => He.frT_none a b) e⟩
  keeps := (He.hookX 4 fal fnl [] tfl exl).keeps
def obl (s : PySem.W.SharedT) : He.AlX := obK (HandSHeadRun.getT s) (kL (HandSHeadRun.getT s))
theorem obl_eq (s : PySem.W.SharedT) : obl s = hkl.obs s.abs := by
  have e : HandSHeadRun.getT s = s.abs.heap.get? := funext (HandSHeadRun.getT_eq s)
  show obK _ (kL _) = obK _ (kL _)
  rw [e]
end Fs

set_option maxHeartbeats 0
/-! The top's run, looked at in two parts (a part wants less memory than the whole). -/
namespace Fs
open PySem PySem.W PySem.Calls HandSHeadRun PyProof.Rows
theorem both {α β γ δ : Type} {o : Option α} {f : α → β} {g : α → γ} {h : α → δ} {b : β} {c : γ} {d : δ} (e : o.map (fun s => (f s, g s)) = some (b, c)) (e2 : o.map h = some d) : o.map (fun s => (f s, g s, h s)) = some (b, c, d) := by
  cases o with
  | none => cases e
  | some s =>
    injection e with e
    injection e with e3 e4
    injection e2 with e2
    show some (f s, g s, h s) = _
    rw [e3, e4, e2]
/-- the part of the run's equation that looks at the world and at the names -/
def SeeEq (r : OpenRow) (q : Program) (M : Nat) (loose : List PySem.Str) (w : World) : Prop := ∀ os : OsState,
  (endF (stepQ (denQ tabQ) r.prog w) M r.prog w os).map (fun s => (looksF r.prog (boot_heap w.params) s.abs, seenQ q loose (importedModules r.prog.main.body) (fun s => xlAt q [] s && recOk r.toRowW.records s) s.abs)) = some (true, openGood q loose)
/-- the part that looks at what the Hook tells -/
def ObEq (r : OpenRow) (H : Hook) (ob : SharedT → H.α) (M : Nat) (w : World) : Prop := ∀ os : OsState, (endF (stepQ (denQ tabQ) r.prog w) M r.prog w os).map ob = some (H.val w)
theorem runEq_of {r : OpenRow} {q : Program} {H : Hook} {ob : SharedT → H.α} {M : Nat} {loose : List PySem.Str} {w : World} (h1 : SeeEq r q M loose w) (h2 : ObEq r H ob M w) : RunEq r q H ob M loose w := fun os => both (h1 os) (h2 os)
theorem run_see (w : World) : SeeEq RR (view RR.prog [121]) 8000 loose w := by
  intro os
  kernel_rfl
theorem run_ob (w : World) : ObEq RR hkl obl 8000 w := by
  intro os
  kernel_rfl
theorem run_l (w : World) : RunEq RR (view RR.prog [121]) hkl obl 8000 loose w := runEq_of (run_see w) (run_ob w)
end Fs

set_option maxHeartbeats 4000000
/-! Figuresort: sorted(.., key=lambda ..). -/
namespace Fs
open PySem PySem.Spec PyProof.Rows L2
open PySem.W (KeyPure)
section
variable {prog : Program} {w : World} {A : Around} {s : Shared} {f c' : Addr} {qual x : Str} {params : Arguments} {body : Expr} {scope : Scope} {cl : List (Str × Addr)} {pm ctv u : Value} {k : PyData}
/-- a lambda of one parameter, called: its body, over the heap alone -/
theorem lam_pure (ho : s.heap.get? f = some (PySem.W.kla_obj "<lambda>" qual params body scope cl pm c' ctv)) (hkind : scope.kind = .function) (hco : scope.isCoroutine = false) (hgen : scope.isGenerator = false)
    (hbind : bindArgs (PySem.W.kla_fn "<lambda>" qual params body scope cl pm (.ref c') ctv) ⟨[u], []⟩ = pure [(x, u)]) (nocell : ∀ y ∈ scope.names, y.2 ≠ .cell) (hx : scope.names.lookup x = some .local) (hrec : s.heap.CodeRec (.ref c') qual)
    (hlim : s.heap.NoLimit) (hd : A.depth < recursionLimit)
    (hbody : ∀ (h₁ : Heap) (tk : Nat), (∀ b o, s.heap.get? b = some o → h₁.get? b = some o) → (h₁.Ns s.heap.objs.size fun y => [(x, u)].reverse.lookup y) →
      wpAny (model prog w) (A.deeper (PySem.W.envX qual scope s.heap.objs.size f (.ref c') cl)) (eval body (PySem.W.envX qual scope s.heap.objs.size f (.ref c') cl)) (fun v s' => KeyPure k s v s') (fun _ _ => False) { s with heap := h₁, toks := tk }) :
    wpAny (model prog w) A (call (.ref f) [u]) (KeyPure k s) (fun _ _ => False) s := by
  refine wpAny_call (codeAny_mono (PySem.W.kla_callFunE (R := fun r s' => ∃ v, r = .ok (.ret v) ∧ KeyPure k s v s') hd ho rfl hco hgen rfl hrec ?_) fun r s' hr => ?_)
  · rw [hbind]
    refine wpAny_pure (wpAny_newFunctionEnv nocell (fun y hy => ?_) (fun h₁ hns hsb => ⟨hlim.fresh _ hsb, ?_⟩) hkind)
    · rw [List.mem_singleton.mp hy]
      exact hx
    · have kp : ∀ b o, s.heap.get? b = some o → h₁.get? b = some o := fun b o e => hsb.extBut b o (Nat.ne_of_lt (Heap.lt_size e)) (Heap.get?_push_of_some _ e)
      refine PySem.W.kla_codeExpr (wpAny_mono (hbody h₁ _ kp hns) (fun v s' h => ⟨v, rfl, h⟩) fun _ _ h => h.elim)
  · obtain ⟨v, rfl, h⟩ := hr
    exact h
end

/-! ### what is known of the rows and of the Pour while it sorts, over the heap -/
/-- v: a tuple of whole numbers -/
def RowIs (h : Heap) (v : Value) (ns : List Int) : Prop := ∃ (t : Addr) (its : List Value), v = .ref t ∧ IsTup h t its.toArray ∧ IntsAre its ns
theorem IsTup.keep {h h' : Heap} {t : Addr} {a : Array Value} (k : ∀ b o, h.get? b = some o → h'.get? b = some o) (x : IsTup h t a) : IsTup h' t a := by
  obtain ⟨o, ho, r⟩ := x
  exact ⟨o, k _ _ ho, r⟩
theorem RowIs.keep {h h' : Heap} {v : Value} {ns : List Int} (k : ∀ b o, h.get? b = some o → h'.get? b = some o) (x : RowIs h v ns) : RowIs h' v ns := by
  obtain ⟨t, its, e, ht, hi⟩ := x
  exact ⟨t, its, e, IsTup.keep k ht, hi⟩
theorem readsAll_ints {h : Heap} : ∀ {its : List Value} {ns : List Int}, IntsAre its ns → ReadsAll h its (ns.map .int) []
  | _, _, .nil => .nil
  | _, _, .cons n t r => by
    have q := ReadsAll.cons (h := h) (Reads.int n t) (readsAll_ints r)
    exact q
theorem RowIs.reads {h : Heap} {v : Value} {ns : List Int} (x : RowIs h v ns) : Reads h v (.tuple (ns.map .int)) [] := by
  obtain ⟨t, its, rfl, ⟨o, ho, hc, n, hd⟩, hi⟩ := x
  refine Reads.tuple ho hc hd ?_
  rw [List.toList_toArray]
  exact readsAll_ints hi

section
variable {prog : Program} {w : World} {A : Around} {s : Shared} {env : Env} {cR a dx C : Addr} {v0 : Value} {n : Int} {tk0 : Tok} {ns : List Int} {its : List Value} {mb mg : Str → Option Value} {h₁ : Heap} {tk : Nat}
/-- tuple(rows[place]): the row itself -/
theorem body_row {p1 p2 p3 p4 p5 : Pos} (kp : ∀ b o, s.heap.get? b = some o → h₁.get? b = some o) (hkind : env.scope.kind = .function)
    (hloc : h₁.Ns env.locals fun y => [(("place" : Str), Value.int n tk0)].reverse.lookup y) (kP : env.kindOf "place" = some .local) (kR : env.kindOf "rows" = some .free) (hc : env.cells.lookup ("rows" : Str) = some cR)
    (kT : env.kindOf "tuple" = some .globalImplicit) (hg : s.heap.Ns env.globals mg) (hm : mg "tuple" = none) (hb : s.heap.Ns env.builtins mb) (hbt : mb "tuple" = some (.type "tuple"))
    (hcell : s.heap.IsCell cR (some (.ref a))) (hl : s.heap.IsList a its.toArray) (h0 : 0 ≤ n) (hn : n < 2 ^ 63) (hit : its[n.toNat]? = some v0) (hrow : RowIs s.heap v0 ns)
    (he : starEach [.Subscript (.Name "rows" p2) (.Name "place" p3) p4] env = (false, eval (.Subscript (.Name "rows" p2) (.Name "place" p3) p4) env) :: starEach [] env) :
    wpAny (model prog w) A (eval (.Call (.Name "tuple" p1) [.Subscript (.Name "rows" p2) (.Name "place" p3) p4] [] p5) env) (fun v s' => KeyPure (.tuple (ns.map .int)) s v s') (fun _ _ => False) { s with heap := h₁, toks := tk } := by
  have hl1 : h₁.IsList a its.toArray := by
    obtain ⟨o, ho, r⟩ := hl
    exact ⟨o, kp _ _ ho, r⟩
  have hrow1 := hrow.keep kp
  obtain ⟨t, is, ev, ht, hi⟩ := hrow1
  subst ev
  refine wpAny_Call_Name_kw (Calls.Name_function_global hkind kT (Calls.loadGlobal_builtin (hg.keeps kp) hm (hb.keeps kp) hbt ?_))
  refine PyProof.Rows.callWith_type1 (args_cons (Subscript_ ?_) he) he rfl
  refine wpAny_Name (wpAny_loadName_free hkind kR hc (v := .ref a) ?_ ?_)
  · obtain ⟨o, ho, r⟩ := hcell
    exact ⟨o, kp _ _ ho, r⟩
  refine wpAny_Name (wpAny_loadName_local hkind kP hloc (v := .int n tk0) (by rfl) ?_)
  refine item_listR hl1 h0 hn (by simpa using hit) (args_nil ?_) rfl
  exact call_tuple_tup ht ⟨h₁, tk, rfl, kp, hrow.keep kp |>.reads⟩
end

section
variable {prog : Program} {w : World} {A : Around} {s : Shared} {env : Env} {K : PySem.W.Frag} {cR a sa dx C : Addr} {v0 : Value} {n : Int} {tk0 : Tok} {ns : List Int} {its : List Value} {mA : Str → Option Value} {h₁ : Heap} {tk : Nat}
theorem objM_keep {h h' : Heap} {x dx C : Addr} {mA : Str → Option Value} (k : ∀ b o, h.get? b = some o → h'.get? b = some o) (o : ObjM h x dx C mA) : ObjM h' x dx C mA :=
  ⟨k _ _ o.obj, o.ns.keeps k, o.ne⟩
/-- (self.came[number], number) -/
theorem body_pair {p1 p2 p3 p4 p5 p6 : Pos} {k0 : Nat} (kp : ∀ b o, s.heap.get? b = some o → h₁.get? b = some o) (hkind : env.scope.kind = .function)
    (hloc : h₁.Ns env.locals fun y => [(("number" : Str), Value.int n tk0)].reverse.lookup y) (kP : env.kindOf "number" = some .local) (kR : env.kindOf "self" = some .free) (hc : env.cells.lookup ("self" : Str) = some cR)
    (hcell : s.heap.IsCell cR (some (.ref sa))) (X : K.In s.heap) (ho : ObjM s.heap sa dx C mA) (cC : Cls K C) (nC : NoAttr K C "came") (hv : mA "came" = some (.ref a)) (hl : s.heap.IsList a its.toArray) (h0 : 0 ≤ n) (hn : n < 2 ^ 63)
    (hit : its[n.toNat]? = some v0) (hrow : RowIs s.heap v0 ns) (hb : attributeBase (.Name "self" p1) "came" env (eval (.Name "self" p1) env) = eval (.Name "self" p1) env)
    (he : starEach [.Subscript (.Attribute (.Name "self" p1) "came" p2) (.Name "number" p3) p4, .Name "number" p5] env = (false, eval (.Subscript (.Attribute (.Name "self" p1) "came" p2) (.Name "number" p3) p4) env) :: starEach [.Name "number" p5] env)
    (he2 : starEach [.Name "number" p5] env = (false, eval (.Name "number" p5) env) :: starEach [] env) :
    wpAny (model prog w) A (eval (.Tuple [.Subscript (.Attribute (.Name "self" p1) "came" p2) (.Name "number" p3) p4, .Name "number" p5] k0 p6) env) (fun v s' => KeyPure (.tuple [.tuple (ns.map .int), .int n]) s v s') (fun _ _ => False) { s with heap := h₁, toks := tk } := by
  have hl1 : h₁.IsList a its.toArray := by
    obtain ⟨o, ho, r⟩ := hl
    exact ⟨o, kp _ _ ho, r⟩
  refine wpAny_Tuple_spliced (args_cons (Subscript_ (attr_of hb ?_)) he)
  refine wpAny_Name (wpAny_loadName_free hkind kR hc (v := .ref sa) ?_ ?_)
  · obtain ⟨o, ho, r⟩ := hcell
    exact ⟨o, kp _ _ ho, r⟩
  refine get_map (K := K) (fun b o e => kp b o (X b o e)) (objM_keep kp ho) (cC.get "came") cC.hd nC hv rfl ?_
  refine wpAny_Name (wpAny_loadName_local hkind kP hloc (v := .int n tk0) (by rfl) ?_)
  refine item_listR hl1 h0 hn (by simpa using hit) (args_cons ?_ he2) rfl
  refine wpAny_Name (wpAny_loadName_local hkind kP hloc (v := .int n tk0) (by rfl) (args_nil ?_))
  refine ⟨by show 2 ≤ sizeLine; decide, ?_⟩
  refine ⟨_, _, rfl, fun b o e => Heap.get?_push_of_some _ (kp b o e), ?_⟩
  have k2 : ∀ b o, s.heap.get? b = some o → (h₁.push { cls := .type "tuple", data := .seq (List.toArray [v0, Value.int n tk0]) }).get? b = some o := fun b o e => Heap.get?_push_of_some _ (kp b o e)
  refine Reads.tuple (Heap.get?_push_size _ rfl) rfl rfl ?_
  have r1 := (hrow.keep k2).reads
  have r2 := ReadsAll.cons r1 (ReadsAll.cons (Reads.int n tk0) (ReadsAll.nil (h := h₁.push { cls := .type "tuple", data := .seq (List.toArray [v0, Value.int n tk0]) })))
  exact r2
end
end Fs

set_option maxHeartbeats 4000000
/-! Figuresort: sorted(.., key=lambda ..), over the layer. -/
namespace Fs
open PySem PySem.Spec PyProof.Rows L2
open PySem.W (KeyPure AllAlike Sortable EachIs dataLe)
section
variable {prog : Program} {w : World} {A : Around} {E : Value → Shared → Prop} {s : Shared} {x : Value} {f : Addr} {ns : List Int} {kd : Int → PyData} {Q : Value → Shared → Prop}
theorem ints_each : ∀ {vs : List Value} {ns : List Int}, IntsAre vs ns → EachIs (fun v n => ∃ t, v = Value.int n t) vs ns
  | _, _, .nil => .nil
  | _, _, .cons n t r => .cons ⟨t, rfl⟩ (ints_each r)
theorem each_ints : ∀ {vs : List Value} {ns : List Int}, EachIs (fun v n => ∃ t, v = Value.int n t) vs ns → IntsAre vs ns
  | _, _, .nil => .nil
  | _, _, .cons ⟨t, e⟩ r => by
    subst e
    exact .cons _ t (each_ints r)
end
/-! ### the lambda is made -/
/-- the table at P may have grown by one code object, of the name q -/
def TabStep (P : Addr) (q : Str) (H H' : Hp) : Prop := H' = H ∨ ∃ (ps more : Array Value) (c : Addr), H P = some (.tbl ps) ∧ H c = none ∧ H' = upd (upd H P (.tbl (ps ++ more))) c (LamX.CodeO c q) ∧ TriplesOk (ps ++ more).toList ∧
  ∀ (pos : Pos) (cv : Value), codeAmong pos (ps ++ more).toList = some cv → codeAmong pos ps.toList = some cv ∨ cv = .ref c
theorem own_tab {T : TL} {G H H' : Hp} {l : List (Addr × HO)} {P : Addr} {q : Str} (O : Own T G H l) (hm : (P, q) ∈ T) (hu : ∀ p ∈ T, p.1 = P → p.2 = q) (st : TabStep P q H H') : ∃ G', Same G G' ∧ Own T G' H' l := by
  rcases st with rfl | ⟨ps, more, c, hP, hc, rfl, ht, hcs⟩
  · exact ⟨G, Same.refl G, O⟩
  · obtain ⟨gP, nP, _⟩ := O.tabs _ hm
    have Gc : G c = none := O.sub.free hc
    have ncP : c ≠ P := (ne_of_none hP hc).symm
    have sG : Same G (upd G c (LamX.CodeO c q)) := same_upd Gc
    have nl : ∀ e ∈ l, e.1 ≠ c ∧ e.1 ≠ P := fun e he => ⟨ne_of_none (O.at_ e he) hc, fun z => nP (by show P ∈ l.map (·.1); rw [← z]; exact List.mem_map.mpr ⟨e, he, rfl⟩)⟩
    refine ⟨upd G c (LamX.CodeO c q), sG, fun b o e => ?_, fun e he => ?_, fun e he => ?_, O.nd, fun t hT => ?_⟩
    · by_cases hb : b = c
      · subst hb
        rw [upd_same] at e ⊢
        exact e
      · rw [upd_ne hb] at e
        rw [upd_ne hb, upd_ne (fun z => by rw [z, gP] at e; cases e)]
        exact O.sub b o e
    · rw [upd_ne (nl e he).1, upd_ne (nl e he).2]
      exact O.at_ e he
    · rw [upd_ne (nl e he).1]
      exact O.out e he
    · obtain ⟨h1, h2, ps', h3, h4, h5⟩ := O.tabs t hT
      have n1 : t.1 ≠ c := ne_of_none h3 hc
      refine ⟨by rw [upd_ne n1]; exact h1, h2, ?_⟩
      by_cases hb : t.1 = P
      · refine ⟨ps ++ more, by rw [upd_ne n1, hb, upd_same], ht, fun pos cv hcv => ?_⟩
        rw [hb, hP] at h3
        cases h3
        rcases hcs pos cv hcv with z | z
        · obtain ⟨c0, e1, e2⟩ := h5 pos cv z
          exact ⟨c0, e1, sG _ _ e2⟩
        · exact ⟨c, z, by rw [hu t hT hb]; exact upd_same⟩
      · refine ⟨ps', by rw [upd_ne n1, upd_ne hb]; exact h3, h4, fun pos cv hcv => ?_⟩
        obtain ⟨c0, e1, e2⟩ := h5 pos cv hcv
        exact ⟨c0, e1, sG _ _ e2⟩
section
variable {X : Cx} {pins : List (Addr × Obj)} {σ : L2.St} {H : Hp} {s : Shared}
theorem lam_made {T : TL} {G : Hp} {l : List (Addr × HO)} {c P : Addr} {params : Arguments} {body : Expr} {scope : Scope} {pos : Pos} {E : Value → Shared → Prop} {Q : Value → Shared → Prop} (I : Inv X pins σ H s) (O : Own T G H l) (TB : LamX.TabB X.base X.mg c P) (hcode : X.env.code = .ref c)
    (hm : (P, X.env.qual ++ "<lambda>") ∈ T) (hdef : defaultsOf params X.env = ([], [])) (hfree : ∀ y ∈ scope.names, y.2 = .free → ∃ c, X.env.cells.lookup y.1 = some c)
    (h : ∀ (f c' : Addr) (pm ctv : Value) (H1 : Hp) (s' : Shared), Inv X pins σ H1 s' → TabStep P (X.env.qual ++ "<lambda>") H H1 →
      s'.heap.get? f = some (PySem.W.kla_obj "<lambda>" (X.env.qual ++ "<lambda>") params body scope (cloFrom X.env.cells scope.names []) pm c' ctv) → s'.heap.CodeRec (.ref c') (X.env.qual ++ "<lambda>") → (∀ b o, b ≠ P → s.heap.get? b = some o → s'.heap.get? b = some o) → Q (.ref f) s') :
    wpAny (model X.prog X.w) X.A (eval (.Lambda params body scope pos) X.env) Q E s := by
  obtain ⟨gP, nP, ps, hP, ht, ha⟩ := O.tabs _ hm
  refine PySem.W.kla_eval hdef ?_
  have bP : s.heap.BuiltinsAt X.mg P := TB.bm.keeps I.bk
  have hP' : s.heap.get? P = some { cls := .none, data := .fields ps } := I.hok P _ hP
  have gl : s.heap.Ns mainGlobals X.mg := I.mod.glob.keeps I.bk
  cases hc : codeAmong pos ps.toList with
  | none =>
    refine PySem.W.kla_makeFunction (mg := X.mg) (c := c) (P := P) (ps := ps) (closure_ok hfree) I.ok.glob gl hcode (TB.code.keeps I.bk) hP' ht hc TB.gP bP fun c' ctv h' tk hx hge hlt hrec htb => ?_
    have nC : H c' = none := I.hok.fresh hge
    obtain ⟨c2, oc, vs, t, e2, hoc, hd, hv⟩ := id hrec
    cases e2
    have k1 : ∀ b o, h'.get? b = some o → (h'.push (PySem.W.kla_obj "<lambda>" (X.env.qual ++ "<lambda>") params body scope (cloFrom X.env.cells scope.names []) ((X.mg "__name__").getD .none) c' ctv)).get? b = some o := fun b o e => Heap.get?_push_of_some _ e
    have I1 := LamX.inv_table (t' := tk) (more := #[rawInt pos.line, rawInt pos.col, .ref c']) (h' := h'.push (PySem.W.kla_obj "<lambda>" (X.env.qual ++ "<lambda>") params body scope (cloFrom X.env.cells scope.names []) ((X.mg "__name__").getD .none) c' ctv)) I hP
      (fun b o hb e => k1 _ _ (hx b o hb e)) (k1 _ _ htb) hge ⟨oc, vs, t, k1 _ _ hoc, hd, hv⟩
    have eL : (ps ++ #[rawInt pos.line, rawInt pos.col, .ref c']).toList = ps.toList ++ [rawInt pos.line, rawInt pos.col, .ref c'] := by simp
    refine h h'.objs.size c' ((X.mg "__name__").getD .none) ctv _ _ I1 (.inr ⟨ps, _, c', hP, nC, rfl, by rw [eL]; exact PySem.TriplesOk_snoc _ _ _ _ ht, fun p' cv hcv => ?_⟩) (Heap.get?_push_size _ rfl) ⟨c', oc, vs, t, rfl, k1 _ _ hoc, hd, hv⟩ fun b o hb e => k1 _ _ (hx b o hb e)
    rw [eL] at hcv
    exact LamX.among_app _ ht hcv
  | some cv =>
    obtain ⟨c', e, hco⟩ := ha pos cv hc
    subst e
    refine PySem.W.kla_makeFunctionHit (mg := X.mg) (c := c) (P := P) (ps := ps) (closure_ok hfree) I.ok.glob gl hcode (TB.code.keeps I.bk) hP' ht hc bP fun ctv h' tk hx hsz => ?_
    have kp : ∀ b o, s.heap.get? b = some o → (h'.push (PySem.W.kla_obj "<lambda>" (X.env.qual ++ "<lambda>") params body scope (cloFrom X.env.cells scope.names []) ((X.mg "__name__").getD .none) c' ctv)).get? b = some o := fun b o e => Heap.get?_push_of_some _ (hx b o e)
    have I1 : Inv X pins σ H { s with heap := h'.push (PySem.W.kla_obj "<lambda>" (X.env.qual ++ "<lambda>") params body scope (cloFrom X.env.cells scope.names []) ((X.mg "__name__").getD .none) c' ctv), toks := tk } := I.kept kp
    obtain ⟨oc, vs, t, hoc, hd, hv⟩ := (I1.hok _ _ (O.sub _ _ hco)).1
    exact h h'.objs.size c' ((X.mg "__name__").getD .none) ctv H _ I1 (.inl rfl) (Heap.get?_push_size _ rfl) ⟨c', oc, vs, t, rfl, hoc, hd, hv⟩ fun b o _ e => kp b o e
end
end Fs

set_option maxHeartbeats 4000000
/-! Figuresort: keyed sorting where the keys may be empty tuples. -/
namespace Fs
open PySem PySem.Spec PyProof.Rows PySem.SeqAt PySem.W PySem.Calls
section
variable {prog : Program} {w : World} {A : Around} {E : Value → Shared → Prop} {s : Shared} {ks : List Value} {ds : List PyData}
theorem reads_empty {h : Heap} {v : Value} {as : List Addr} (r : Reads h v (.tuple []) as) : ∃ a o n, v = .ref a ∧ h.get? a = some o ∧ o.cls = .type "tuple" ∧ o.data = .seq #[] n := by
  cases r with
  | @tuple a o vs n _ _ h1 h2 h3 h4 =>
    have e : vs = #[] := by
      have q := SeqAt.ReadsAll.length _ _ _ h4
      exact Array.eq_empty_of_size_eq_zero (by simpa using q)
    exact ⟨a, o, n, rfl, h1, h2, by rw [h3, e]⟩
theorem alike_empty (hall : ∀ d, d ∈ ds → d = .tuple []) : AllAlike ds := fun d hd d' hd' => by
  rw [hall d hd, hall d' hd']
  simp [alike, alikeAll]
theorem sorts_empty (hall : ∀ d, d ∈ ds → d = .tuple []) (e : EachIs (fun v d => ∃ as, Reads s.heap v d as) ks ds) (hu : A.units + 1 < cLine) : SortsAt prog w A s (dataKind s.heap ds) ks := by
  have hal : AllAlike ds := alike_empty hall
  have isE : ∀ v ∈ ks, ∃ a o n, v = .ref a ∧ s.heap.get? a = some o ∧ o.cls = .type "tuple" ∧ o.data = .seq #[] n := fun v hv => by
    obtain ⟨d, hd, as, r⟩ := e.left v hv
    rw [hall d hd] at r
    exact reads_empty r
  refine ⟨fun v hv => ?_, oneType', ?_, fun h2 E' Q hq => ?_⟩
  · obtain ⟨d, hd, as, r⟩ := e.left v hv
    exact ⟨_, dataKind_some hal hd r⟩
  · intro E' x y a b Q ha hb hq
    obtain ⟨d, as, hd, ra, rfl⟩ := dataKind_inv ha
    obtain ⟨d', as', hd', rb, rfl⟩ := dataKind_inv hb
    rw [hall d hd] at ra hq
    rw [hall d' hd'] at rb hq
    obtain ⟨p, ⟨c1, dd1, dt1, sl1⟩, n, rfl, h1, h2, h3⟩ := reads_empty ra
    obtain ⟨q, ⟨c2, dd2, dt2, sl2⟩, m, rfl, k1, k2, k3⟩ := reads_empty rb
    simp only at h2 h3 k2 k3
    subst h2 h3 k2 k3
    have hq0 : Q false s := by
      have z : (dataKind s.heap ds).blt (keyToks (.tuple [])) (keyToks (.tuple [])) = false := PyProof.Rows.lex_irrefl _
      rw [z] at hq
      exact hq
    rw [keyLt'_oneType, oneLt'_eq]
    simp only [if_true]
    refine wpAny_bind (wpAny_cRoomFor (by omega) ?_)
    refine wpAny_bind (wpAny_callSpecialIfBound?_slot (T := "tuple") ⟨_, h1, rfl⟩ F.slot_tuple_lt (call_meets F.slot_tuple_lt ⟨_, h1, rfl⟩ F.entry_tuple_lt (F.args_tuple_lt_2 _ _)
      (tuple_ltAt p q #[] #[] n m dd1 dd2 sl1 sl2 (fun _ => true) (fun _ => true)) ⟨h1, k1, fun j j1 => absurd j1 (by simp), fun j j1 => absurd j1 (by simp), ?_⟩))
    exact wpAny_truthy_bool hq0
  · have hT : ∀ v ∈ ks, Looks (model prog w) s.heap (typeOf v) (.type "tuple") := fun v hv => by
      obtain ⟨d, hd, as, r⟩ := e.left v hv
      have q := looks_reads (M := model prog w) r
      rw [hall d hd] at q
      exact q
    obtain ⟨v₁, v₂, rest, rfl⟩ : ∃ v₁ v₂ rest, ks = v₁ :: v₂ :: rest := by
      match ks, h2 with
      | v₁ :: v₂ :: rest, _ => exact ⟨v₁, v₂, rest, rfl⟩
    rw [kat_kind_eq, List.mapM_toArray, map_eq_pure_bind]
    refine wpAny_bind (wpAny_bind (kas_mapM (r := (none : Option Value)) _ (fun v hv Q' hq' => ?_) (wpAny_pure ?_)))
    · obtain ⟨p, o, n, rfl, g1, g2, g3⟩ := isE v hv
      rw [kas_first_eq]
      refine wpAny_bind ((hT _ hv).here ?_)
      rw [if_neg (by simp)]
      exact wpAny_bind (listItems_at g1 g3 (wpAny_pure hq'))
    · rw [if_neg (by simp), if_neg (by simp)]
      rw [oneTypeOnly'_eq, List.mapM_toArray, map_eq_pure_bind]
      refine wpAny_bind (wpAny_bind (wpAny_bind (kas_mapM (r := Value.type "tuple") _ (fun v hv Q' hq' => (hT v hv).here hq') (wpAny_pure ?_))))
      have h0 : (List.map (fun _ => Value.type "tuple") (v₁ :: v₂ :: rest)).toArray[0]? = some (Value.type "tuple") := by simp
      have hA : ((List.map (fun _ => Value.type "tuple") (v₁ :: v₂ :: rest)).toArray.all fun x => x == Value.type "tuple") = true := by
        simp only [List.all_toArray, List.all_map, List.all_eq_true]
        intro _ _
        exact beq_self_eq_true _
      rw [h0]
      simp only [hA, if_true]
      exact wpAny_pure (wpAny_pure hq)
end

def KeysGood (ds : List PyData) : Prop := AllAlike ds ∧ (Sortable ds ∨ ∀ d, d ∈ ds → d = .tuple [])
section
variable {prog : Program} {w : World} {A : Around} {E : Value → Shared → Prop} {s : Shared} {ks : List Value} {ds : List PyData}
theorem sorts_good (g : KeysGood ds) (e : EachIs (fun v d => ∃ as, Reads s.heap v d as) ks ds) (hu : ∀ d, d ∈ ds → A.units + d.depth < cLine) (hu1 : A.units + 1 < cLine) : SortsAt prog w A s (dataKind s.heap ds) ks := by
  rcases g.2 with h | h
  · exact SortsAt.data e g.1 h hu
  · exact sorts_empty h e hu1
variable {a kS : Addr} {vs : List Value} {e1 : Nat} {P : PySem.Fin → Shared → Prop}
/-- while the keys are reckoned: kS holds those that are there -/
def Reckoned (s : Shared) (a kS : Addr) (e1 : Nat) (hB : Heap) (ds : List PyData) (i : Nat) (t : Shared) : Prop :=
  ∃ (g : Heap) (tk : Nat) (made : Array Value) (n : Nat), t = { s with heap := g, toks := tk } ∧ KeepsBut a hB g ∧ g.get? kS = some (seqObj "list" made n) ∧ g.get? a = some (seqObj "list" #[] e1) ∧ EachIs (fun v d => Reads g v d []) made.toList (ds.take i)
theorem keyG_rest {f : Value} {hB : Heap} (kb : KeepsBut a hB s.heap) (nB : hB.get? kS = none) (hk : s.heap.get? kS = some (seqObj "list" #[] 0)) (ha : s.heap.get? a = some (seqObj "list" #[] e1)) (ne : kS ≠ a)
    (hl : ds.length = vs.length) (hZ : vs.length ≤ sizeLine) (g : KeysGood ds) (hu : ∀ d, d ∈ ds → A.units + d.depth < cLine) (hu1 : A.units + 1 < cLine)
    (turn : ∀ (i : Nat) (v : Value) (d : PyData), vs[i]? = some v → ds[i]? = some d → ∀ (h : Heap) (tk : Nat), KeepsBut a hB h →
      wpAny (model prog w) A (call f [v]) (KeyPure d { s with heap := h, toks := tk }) (fun _ _ => False) { s with heap := h, toks := tk })
    (fin : ∀ h' tk out c, KeepsBut a hB h' → h'.get? a = some (seqObj "list" (List.toArray out) c) → KeyedOut false ds vs out → P (.done (.ret .none)) { s with heap := h', toks := tk }) :
    wpAny (model prog w) A (ksk_rest a f false vs.toArray e1 (.ref kS)) P E s := by
  unfold ksk_rest
  refine wpAny_bind (wpAny_rule ?_)
  rw [List.forIn_toArray]
  refine wpAny_bind (ksk_fold (Reckoned s a kS e1 hB ds) vs 0 s ⟨s.heap, s.toks, #[], 0, rfl, kb, hk, ha, by rw [List.take_zero]; exact EachIs.nil⟩ (fun j x t hx R => ?_) fun t R => ?_)
  · rw [Nat.zero_add] at R ⊢
    obtain ⟨g0, tk, made, n, rfl, k0, hk0, ha0, e0⟩ := R
    have jl : j < vs.length := (List.getElem?_eq_some_iff.mp hx).1
    obtain ⟨d, hd⟩ : ∃ d, ds[j]? = some d := ⟨_, List.getElem?_eq_getElem (by omega)⟩
    have hdd : alike d d = true := g.1 d (List.mem_of_getElem? hd) d (List.mem_of_getElem? hd)
    have ml : made.size = j := by
      have q := e0.length
      rw [Array.length_toList, List.length_take] at q
      omega
    refine wpAny_bind (wpAny_attempt (wpAny_mono (turn j x d hx hd g0 tk k0) (fun v t2 z => ?_) fun _ _ z => z.elim))
    obtain ⟨g1, tk1, rfl, k1, r1⟩ := z
    try dsimp only
    have up := Heap.SameBut.update g1 kS (Obj.mapSeq (·.push v))
    have hk1 := k1 _ _ hk0
    obtain ⟨m, hm⟩ : ∃ m, (g1.update kS (Obj.mapSeq (·.push v))).get? kS = some (seqObj "list" (made.push v) m) := ⟨_, get?_update_seq hk1 (·.push v)⟩
    refine wpAny_bind (listUpdate_at hk1 rfl ?_ (by omega) (by rw [Array.size_push]; omega))
    have still : ∀ (u : Value) (c : PyData), alike c c = true → Reads g1 u c [] → Reads (g1.update kS (Obj.mapSeq (·.push v))) u c [] := fun u c hc q =>
      Reads.keepBut (a := kS) (fun b o hb e => (up.2 b hb).trans e) (fun o e => by rw [hk1] at e; rw [← Option.some.inj e]) c u [] hc q (by simp)
    refine wpAny_pure ⟨rfl, _, tk1, made.push v, m, rfl, (k0.trans_all k1).same up (.inr nB), hm, (up.2 a ne.symm).trans (k1 _ _ ha0), ?_⟩
    rw [Array.toList_push, List.take_add_one, hd]
    refine each_snoc (R := fun (u : Value) (c : PyData) => Reads (g1.update kS (Obj.mapSeq (·.push v))) u c []) (still v d hdd r1) ?_
    have mem : ∀ c ∈ ds.take j, alike c c = true := fun c hc => g.1 c (List.mem_of_mem_take hc) c (List.mem_of_mem_take hc)
    exact (each_mem e0).mono fun u c q => still u c (mem c q.2) (PyProof.Rows.Reads.keeps k1 q.1)
  · obtain ⟨g0, tk, made, n, rfl, k0, hk0, ha0, e0⟩ := R
    rw [List.take_of_length_le (by omega)] at e0
    have ml : made.size = vs.length := by
      have q := e0.length
      rw [Array.length_toList] at q
      omega
    try dsimp only
    refine wpAny_bind (listItems_at hk0 rfl ?_)
    have e1' : EachIs (fun v d => ∃ as, Reads g0 v d as) made.toList ds := e0.mono fun _ _ q => ⟨[], q⟩
    exact keyH_end (κ := dataKind g0 ds) (h₁ := hB) k0 nB hk0 ha0 ne (sorts_good (s := { s with heap := g0, toks := tk }) g e1' hu hu1) ml hZ fun h3 tk3 c k3 n3 => fin h3 tk3 _ c k3 n3 ⟨g0, made.toList, g.1, rfl, e1'⟩
theorem keyG_tree {f : Value} {n : Nat} (ho : s.heap.get? a = some (seqObj "list" vs.toArray n)) (hl : ds.length = vs.length) (hZ : vs.length ≤ sizeLine) (g : KeysGood ds) (hu : ∀ d, d ∈ ds → A.units + d.depth < cLine) (hu1 : A.units + 1 < cLine)
    (turn : ∀ (i : Nat) (v : Value) (d : PyData), vs[i]? = some v → ds[i]? = some d → ∀ (h : Heap) (tk : Nat), KeepsBut a s.heap h →
      wpAny (model prog w) A (call f [v]) (KeyPure d { s with heap := h, toks := tk }) (fun _ _ => False) { s with heap := h, toks := tk })
    (fin : ∀ h' tk out c, KeepsBut a s.heap h' → h'.get? a = some (seqObj "list" (List.toArray out) c) → KeyedOut false ds vs out → P (.done (.ret .none)) { s with heap := h', toks := tk }) :
    wpAny (model prog w) A (ksk_tree a f false) P E s := by
  have la : a < s.heap.objs.size := Heap.lt_size ho
  obtain ⟨e1, ho1⟩ : ∃ e1, (s.heap.update a (Obj.mapSeq fun _ => (#[] : Array Value))).get? a = some (seqObj "list" #[] e1) := ⟨_, get?_update_seq ho fun _ => #[]⟩
  have hs : ((s.heap.update a (Obj.mapSeq fun _ => (#[] : Array Value))).push (seqObj "tuple" vs.toArray 0)).objs.size = s.heap.objs.size + 1 := by
    rw [size_push', Heap.size_update]
  unfold ksk_tree
  refine wpAny_bind (listItems_at ho rfl (wpAny_bind (listUpdate_at ho rfl ?_ (by rw [List.size_toArray]; exact hZ) (Nat.zero_le _))))
  refine wpAny_bind (seqEpoch_at ho1 rfl (wpAny_bind (wpAny_newTuple ?_ (by show vs.length ≤ _; exact hZ))))
  refine wpAny_bind (wpAny_newList (wpAny_holding ?_) (Nat.zero_le _))
  exact keyG_rest (ds := ds) (hB := s.heap) (s := { s with heap := sortingHeap s.heap a vs }) (kS := ((s.heap.update a (Obj.mapSeq fun _ => (#[] : Array Value))).push (seqObj "tuple" vs.toArray 0)).objs.size)
    (fun b o hb q => sortingHeap_old hb q) (Heap.get?_none_of_le (by rw [hs]; exact Nat.le_succ _)) (Heap.get?_push_size _ rfl) (Heap.get?_push_of_some _ (Heap.get?_push_of_some _ ho1)) (by rw [hs]; exact Nat.ne_of_gt (Nat.lt_succ_of_lt la)) hl hZ g hu hu1 turn fin
end

section
variable {prog : Program} {w : World} {A : Around} {E : Value → Shared → Prop} {s : Shared} {x : Value} {f : Addr} {ns : List Int} {kd : Int → PyData} {Q : Value → Shared → Prop}
/-- sorted(x, key=f) of whole numbers, x anything that is collected -/
theorem sorted_key_any (hcol : ∀ Q' : List Value → Shared → Prop, (∀ vs h' tk, (∀ b o, s.heap.get? b = some o → h'.get? b = some o) → IntsAre vs ns → Q' vs { s with heap := h', toks := tk }) → wpAny (model prog w) A.in1 (collect x) Q' E s)
    (hg : KeysGood (ns.map kd)) (hu1 : A.units + 3 < cLine) (hL : ns.length ≤ sizeLine) (hu : ∀ n, n ∈ ns → A.units + 2 + (kd n).depth < cLine)
    (turn : ∀ (n : Int) (t : Tok), n ∈ ns → ∀ (h : Heap) (tk : Nat), (∀ b o, s.heap.get? b = some o → h.get? b = some o) →
      wpAny (model prog w) A.in1.in1 (call (.ref f) [.int n t]) (KeyPure (kd n) { s with heap := h, toks := tk }) (fun _ _ => False) { s with heap := h, toks := tk })
    (h : ∀ (out : List Value) (c : Nat) (h1 h' : Heap) (tk : Nat), (∀ b o, s.heap.get? b = some o → h1.get? b = some o) → (∀ b o, h1.get? b = some o → h'.get? b = some o) → h'.get? h1.objs.size = some (seqObj "list" (List.toArray out) c) → IntsAre out (ns.mergeSort (dataLe false kd)) → Q (.ref h1.objs.size) { s with heap := h', toks := tk }) :
    wpAny (model prog w) A (call (.builtin "sorted") [x] [(Str.ofString "key", .ref f)]) Q E s := by
  refine call_function_entry_kw kind_sorted plain_sorted entry_sorted (ksk_s1 _ _) ?_
  unfold Builtin.«sorted»
  refine wpAny_bind (m := checkCount "sorted" 1 1 _) (wpAny_pure ?_)
  refine wpAny_bind (hcol _ fun vs h' tk kp hi => ?_)
  have hlv : vs.length = ns.length := hi.length
  refine wpAny_bind (wpAny_newList ?_ (by rw [hlv]; exact hL))
  have hat : (h'.push (seqObj "list" vs.toArray 0)).get? h'.objs.size = some (seqObj "list" vs.toArray 0) := Heap.get?_push_size _ rfl
  refine wpAny_bind (wpAny_holding (wpAny_call_entry_kw slot_list_sort ⟨_, hat, rfl⟩ entry_list_sort ?_ (ksk_l1 _ _)))
  show wpAny (model prog w) A.in1.in1 (Builtin.«list.sort» ⟨[.ref h'.objs.size], [(Str.ofString "key", .ref f)]⟩) _ _ { s with heap := h'.push (seqObj "list" vs.toArray 0), toks := tk }
  rw [ksk_t1]
  have e := ints_each hi
  refine keyG_tree (ds := ns.map kd) (s := { s with heap := h'.push (seqObj "list" vs.toArray 0), toks := tk }) hat (by rw [List.length_map]; exact hlv.symm) (by rw [hlv]; exact hL) hg (PySem.W.bound_map (A := A.in1.in1) hu) (by show A.units + 1 + 1 + 1 < cLine; omega)
    (PySem.W.keyH_turns (s := { s with heap := h'.push (seqObj "list" vs.toArray 0), toks := tk }) e fun v n ⟨t, hv⟩ hn h2 tk2 kb => ?_) fun h2 tk2 out c kb hD ko => ?_
  · subst hv
    exact turn n t hn h2 tk2 fun b o q => kb b o (Nat.ne_of_lt (Heap.lt_size (kp b o q))) (Heap.get?_push_of_some _ (kp b o q))
  · refine ⟨_, rfl, wpAny_pure ⟨_, rfl, ?_⟩⟩
    exact h out c h' h2 tk2 kp (fun b o q => kb b o (Nat.ne_of_lt (Heap.lt_size q)) (Heap.get?_push_of_some _ q)) hD (each_ints (PySem.W.keyedOut_each kd ko e))
end

end Fs

set_option maxHeartbeats 4000000
/-! Figuresort: sorted(.., key=lambda ..) as a rule. -/
namespace Fs
open PySem PySem.Spec PyProof.Rows L2
open PySem.W (KeyPure dataLe)
section
variable {X : Cx} {pins : List (Addr × Obj)} {σ : L2.St} {H : Hp} {s : Shared} {Q : VK} {ns : List Int} {kd : Int → PyData}
theorem sort_run {x : Value} {f : Addr} (I : Inv X pins σ H s) (hroom : X.A.units + 64 < cLine)
    (hcol : ∀ Q' : List Value → Shared → Prop, (∀ vs h' tk, (∀ b o, s.heap.get? b = some o → h'.get? b = some o) → IntsAre vs ns → Q' vs { s with heap := h', toks := tk }) → wpAny (model X.prog X.w) X.A.in1 (collect x) Q' X.xe s)
    (hg : KeysGood (ns.map kd)) (hL : ns.length ≤ sizeLine) (hu : ∀ n, n ∈ ns → (kd n).depth ≤ 8)
    (turn : ∀ (n : Int) (t : Tok), n ∈ ns → ∀ (h : Heap) (tk : Nat), (∀ b o, s.heap.get? b = some o → h.get? b = some o) →
      wpAny (model X.prog X.w) X.A.in1.in1 (call (.ref f) [.int n t]) (KeyPure (kd n) { s with heap := h, toks := tk }) (fun _ _ => False) { s with heap := h, toks := tk })
    (q : ∀ p, H p = none → Q (.ref p) (upd H p (.lst ((ns.mergeSort (dataLe false kd)).map V.int)))) :
    wpAny (model X.prog X.w) X.A (call (.builtin "sorted") [x] [(Str.ofString "key", .ref f)]) (EP X pins σ Q) X.xe s := by
  refine sorted_key_any hcol hg (by omega) hL (fun n hn => by have := hu n hn; omega) turn fun out c h1 h' tk k1 k2 hD hi => ?_
  have I1 : Inv X pins σ H { s with heap := h1 } := I.kept (t' := s.toks) k1
  have hl : ((ns.mergeSort (dataLe false kd)).map V.int).length ≤ sizeLine := by
    rw [List.length_map, (List.mergeSort_perm _ _).length_eq]
    exact hL
  have rv : Vals ((ns.mergeSort (dataLe false kd)).map V.int) out := vals_of_ints hi
  exact ⟨.ref _, upd H h1.objs.size (.lst ((ns.mergeSort (dataLe false kd)).map V.int)), I1.laid (t' := tk) k2 (Nat.le_refl _) ⟨hl, out, c, rv, hD⟩, rfl, q _ (I1.hok.fresh (Nat.le_refl _))⟩
theorem col_list {E : Value → Shared → Prop} {A : Around} {a : Addr} (I : Inv X pins σ H s) (hs : SqL X.K H a (ns.map V.int)) (Q' : List Value → Shared → Prop)
    (h : ∀ vs h' tk, (∀ b o, s.heap.get? b = some o → h'.get? b = some o) → IntsAre vs ns → Q' vs { s with heap := h', toks := tk }) : wpAny (model X.prog X.w) A (collect (.ref a)) Q' E s := by
  obtain ⟨its, rv, hl, hz⟩ := I.list hs
  refine collect_list hl.isList (h its _ s.toks (fun b o e => ?_) rv.ints) (by rw [← rv.length]; exact hz)
  rw [Heap.get?_update_ne _ _ _ _ (Nat.ne_of_lt (Heap.lt_size e))]
  exact Heap.get?_push_of_some _ e
theorem rng_ints : ∀ (acc : List Value) (i : Nat), (∀ j v, acc[j]? = some v → ∃ t, v = Value.int (((i + j : Nat) : Int)) t) → IntsAre acc ((List.range' i acc.length).map fun k : Nat => (k : Int))
  | [], i, _ => .nil
  | v :: r, i, h => by
    obtain ⟨t, rfl⟩ := h 0 v rfl
    rw [List.length_cons, List.range'_succ, List.map_cons]
    refine IntsAre.cons _ t (rng_ints r (i + 1) fun j u hj => ?_)
    obtain ⟨t', e⟩ := h (j + 1) u hj
    exact ⟨t', by rw [e]; congr 2; omega⟩
theorem col_rng {E : Value → Shared → Prop} {A : Around} {r : Addr} {n : Nat} {t u v : Tok} (hh : A.handled = none) (hr : IsRange s.heap r 0 (n : Int) 1 t u v) (hn : n ≤ 2 ^ 24) (Q' : List Value → Shared → Prop)
    (h : ∀ vs h' tk, (∀ b o, s.heap.get? b = some o → h'.get? b = some o) → IntsAre vs ((List.range n).map fun k : Nat => (k : Int)) → Q' vs { s with heap := h', toks := tk }) : wpAny (model X.prog X.w) A (collect (.ref r)) Q' E s := by
  refine L2.collect_range (n := n) hh hr (small_one (by omega) (by omega) (by omega) (by omega)) (by have z := rangeSize_nat 0 (n : Int); rw [z]; omega) hn fun h' tk acc hk hi => h _ h' tk hk ?_
  have e : acc.toList.length = n := by
    rw [Array.length_toList]
    exact hi.1
  have z := rng_ints acc.toList 0 fun j w hj => by
    obtain ⟨t, q⟩ := hi.2 j w (by rw [← hj, Array.getElem?_toList])
    exact ⟨t, by rw [q]; congr 1; omega⟩
  rw [e, ← List.range_eq_range'] at z
  exact z
end

/-- what the lambda gives, by the heap: KF says it of the slots and the abstract heap -/
def KeyHolds (X : Cx) (params : Arguments) (body : Expr) (scope : Scope) (KF : L2.St → Hp → List Int → (Int → PyData) → Prop) : Prop :=
  ∀ (pins : List (Addr × Obj)) (σ : L2.St) (H : Hp) (s : Shared) (ns : List Int) (kd : Int → PyData), Inv X pins σ H s → KF σ H ns kd → ∀ (f c' : Addr) (pm ctv : Value),
    s.heap.get? f = some (PySem.W.kla_obj "<lambda>" (X.env.qual ++ "<lambda>") params body scope (cloFrom X.env.cells scope.names []) pm c' ctv) → s.heap.CodeRec (.ref c') (X.env.qual ++ "<lambda>") →
    ∀ (n : Int) (t : Tok), n ∈ ns → ∀ (h : Heap) (tk : Nat), (∀ b o, s.heap.get? b = some o → h.get? b = some o) →
      wpAny (model X.prog X.w) X.A.in1.in1 (call (.ref f) [.int n t]) (KeyPure (kd n) { s with heap := h, toks := tk }) (fun _ _ => False) { s with heap := h, toks := tk }
/-- what is asked and told: the list x is of ns; the keys are kd -/
def tSortE (T : TL) (P : Addr) (q : Str) (KF : L2.St → Hp → List Int → (Int → PyData) → Prop) (σ : L2.St) (H : Hp) (ns : List Int) (Q : VK) : Prop :=
  ∃ G l kd, Own T G H l ∧ KeysGood (ns.map kd) ∧ ns.length ≤ 2 ^ 24 ∧ (∀ n, n ∈ ns → (kd n).depth ≤ 8) ∧ (∀ H2, TabStep P q H H2 → KF σ H2 ns kd) ∧
    ∀ G2 H2 p, Same G G2 → Own T G2 H2 ((p, .lst ((ns.mergeSort (dataLe false kd)).map V.int)) :: l) → Q (.ref p) H2
def tSortL (K : PySem.W.Frag) (T : TL) (P : Addr) (q : Str) (KF : L2.St → Hp → List Int → (Int → PyData) → Prop) (te : TE) : TE := fun σ H Q => te σ H fun x H1 => ∃ a ns, x = .ref a ∧ SqL K H1 a (ns.map V.int) ∧ tSortE T P q KF σ H1 ns Q
def tSortR (T : TL) (P : Addr) (q : Str) (KF : L2.St → Hp → List Int → (Int → PyData) → Prop) (te : L2.St → Hp → (Int → Int → Hp → Prop) → Prop) : TE := fun σ H Q => te σ H fun lo hi H1 => ∃ n : Nat, lo = 0 ∧ hi = (n : Int) ∧ tSortE T P q KF σ H1 ((List.range n).map fun k : Nat => (k : Int)) Q
section
variable {X : Cx} {T : TL} {KF : L2.St → Hp → List Int → (Int → PyData) → Prop} {c P : Addr} {params : Arguments} {body : Expr} {scope : Scope} {lpos kpos p pos : Pos} {e : Expr}
theorem sort_tail {pins : List (Addr × Obj)} {σ : L2.St} {H : Hp} {s : Shared} {Q : VK} {ns : List Int} {x : Value} (TB : LamX.TabB X.base X.mg c P) (hcode : X.env.code = .ref c) (hm : (P, X.env.qual ++ "<lambda>") ∈ T)
    (hu : ∀ p ∈ T, p.1 = P → p.2 = X.env.qual ++ "<lambda>") (hk : KeyHolds X params body scope KF) (hdef : defaultsOf params X.env = ([], [])) (hfree : ∀ y ∈ scope.names, y.2 = .free → X.env.kindOf y.1 = some .cell) (hroom : X.A.units + 64 < cLine) (I : Inv X pins σ H s)
    (h : tSortE T P (X.env.qual ++ "<lambda>") KF σ H ns Q)
    (hcol : ∀ (s' : Shared) (H' : Hp), Inv X pins σ H' s' → TabStep P (X.env.qual ++ "<lambda>") H H' → (∀ b o, b ≠ P → s.heap.get? b = some o → s'.heap.get? b = some o) → ∀ Q' : List Value → Shared → Prop, (∀ vs h' tk, (∀ b o, s'.heap.get? b = some o → h'.get? b = some o) → IntsAre vs ns → Q' vs { s' with heap := h', toks := tk }) → wpAny (model X.prog X.w) X.A.in1 (collect x) Q' X.xe s') :
    wpAny (model X.prog X.w) X.A (evalAll ((backToKw pos (keywordEach [⟨some ("key" : Str), .Lambda params body scope lpos, kpos⟩] X.env)).map (·.2)))
      (fun kvs s₂ => wpAny (model X.prog X.w) X.A (call (.builtin "sorted") [x] ([("key" : Str)].zip kvs)) (EP X pins σ Q) X.xe s₂) X.xe s := by
  obtain ⟨G, l, kd, O, hg, hL, hd, hK, q⟩ := h
  show wpAny _ _ (evalAll ((do let v ← eval (.Lambda params body scope lpos) X.env; standAt pos; pure v) :: [])) _ _ s
  refine wpAny_evalAll_cons (wpAny_bind (lam_made I O TB hcode hm hdef (fun y hy e => I.ok.has _ (.inl (hfree y hy e))) fun f c' pm ctv H1 s' I1 st hf hr kp0 => wpAny_bind (wpAny_standAt (wpAny_pure (wpAny_evalAll_nil ?_)))))
  obtain ⟨G2, s2, O2⟩ := own_tab O hm hu st
  refine sort_run (kd := kd) I1 hroom (hcol s' H1 I1 st kp0) hg (by rw [sizeLine_eq]; omega) hd (fun n t hn h tk kp => hk pins σ H1 s' ns kd I1 (hK H1 st) f c' pm ctv hf hr n t hn h tk kp) fun p hp => q G2 _ p s2 (own_new O2 hp)
/-- sorted(e, key=lambda ..), e a list of whole numbers -/
theorem pe_sortLamL {te : TE} (he : PE X e te) (hg : Gl X "sorted") (hs : X.mg "sorted" = none) (TB : LamX.TabB X.base X.mg c P) (hcode : X.env.code = .ref c) (hm : (P, X.env.qual ++ "<lambda>") ∈ T)
    (hu : ∀ p ∈ T, p.1 = P → p.2 = X.env.qual ++ "<lambda>") (hk : KeyHolds X params body scope KF) (hdef : defaultsOf params X.env = ([], [])) (hfree : ∀ y ∈ scope.names, y.2 = .free → X.env.kindOf y.1 = some .cell) (hroom : X.A.units + 64 < cLine)
    (h1 : backTo pos (starEach (e :: []) X.env) = (false, eval e X.env) :: backTo pos (starEach [] X.env) := by rfl) (h2 : (backTo pos (starEach (e :: []) X.env)).any (·.1) = false := by rfl)
    (h3 : (backToKw pos (keywordEach [⟨some ("key" : Str), .Lambda params body scope lpos, kpos⟩] X.env)).all (·.1.isSome) = true := by rfl) (h4 : (backToKw pos (keywordEach [⟨some ("key" : Str), .Lambda params body scope lpos, kpos⟩] X.env)).any (·.1.isNone) = false := by rfl)
    (h5 : (backToKw pos (keywordEach [⟨some ("key" : Str), .Lambda params body scope lpos, kpos⟩] X.env)).filterMap (·.1) = [("key" : Str)] := by rfl) (h6 : starEach (e :: []) X.env = (false, eval e X.env) :: starEach [] X.env := by rfl) :
    PE X (.Call (.Name "sorted" p) [e] [⟨some ("key" : Str), .Lambda params body scope lpos, kpos⟩] pos) (tSortL X.K T P (X.env.qual ++ "<lambda>") KF te) := by
  refine ⟨fun pins s σ H Q I h => ?_⟩
  have hbt : bootBuiltins "sorted" = some (.builtin "sorted") := by decide +kernel
  refine wpAny_Call_Name_kw (ld_blt I hg hs hbt ?_)
  refine PyProof.Rows.callWith_kw (args_cons (thn (he.run pins s σ H _ I h) fun u s1 ⟨v, H1, I1, r1, a, ns, ev, hq, q1⟩ => args_nil ?_) h6) h1 h2 h3 h4
  subst ev
  obtain rfl : u = Value.ref a := r1
  rw [h5]
  refine sort_tail TB hcode hm hu hk hdef hfree hroom I1 q1 fun s' H' I' st _ Q' hq' => col_list I' ?_ Q' hq'
  rcases st with rfl | ⟨ps, more, c0, e1, e2, rfl, _, _⟩
  · exact hq
  · have ne : ∀ b o, H1 b = some o → (∀ z, o ≠ .tbl z) → upd (upd H1 P (.tbl (ps ++ more))) c0 (LamX.CodeO c0 (X.env.qual ++ "<lambda>")) b = some o := fun b o e n => by
      rw [upd_ne (ne_of_none e e2), upd_ne (fun z => n ps (Option.some.inj (e.symm.trans (by rw [z]; exact e1))))]
      exact e
    rcases hq with (hq | ⟨o, hq⟩) | hq
    · exact .inl (.inl (ne _ _ hq (by intro z; nofun)))
    · exact .inl (.inr ⟨o, ne _ _ hq (by intro z; nofun)⟩)
    · exact .inr hq
/-- sorted(range(..), key=lambda ..) -/
theorem pe_sortLamR {te : L2.St → Hp → (Int → Int → Hp → Prop) → Prop} (he : PRg X e te) (hg : Gl X "sorted") (hs : X.mg "sorted" = none) (hcalm : X.calm = true) (TB : LamX.TabB X.base X.mg c P) (hcode : X.env.code = .ref c) (hm : (P, X.env.qual ++ "<lambda>") ∈ T)
    (hu : ∀ p ∈ T, p.1 = P → p.2 = X.env.qual ++ "<lambda>") (hk : KeyHolds X params body scope KF) (hdef : defaultsOf params X.env = ([], [])) (hfree : ∀ y ∈ scope.names, y.2 = .free → X.env.kindOf y.1 = some .cell) (hroom : X.A.units + 64 < cLine)
    (h1 : backTo pos (starEach (e :: []) X.env) = (false, eval e X.env) :: backTo pos (starEach [] X.env) := by rfl) (h2 : (backTo pos (starEach (e :: []) X.env)).any (·.1) = false := by rfl)
    (h3 : (backToKw pos (keywordEach [⟨some ("key" : Str), .Lambda params body scope lpos, kpos⟩] X.env)).all (·.1.isSome) = true := by rfl) (h4 : (backToKw pos (keywordEach [⟨some ("key" : Str), .Lambda params body scope lpos, kpos⟩] X.env)).any (·.1.isNone) = false := by rfl)
    (h5 : (backToKw pos (keywordEach [⟨some ("key" : Str), .Lambda params body scope lpos, kpos⟩] X.env)).filterMap (·.1) = [("key" : Str)] := by rfl) (h6 : starEach (e :: []) X.env = (false, eval e X.env) :: starEach [] X.env := by rfl) :
    PE X (.Call (.Name "sorted" p) [e] [⟨some ("key" : Str), .Lambda params body scope lpos, kpos⟩] pos) (tSortR T P (X.env.qual ++ "<lambda>") KF te) := by
  refine ⟨fun pins s σ H Q I h => ?_⟩
  have hbt : bootBuiltins "sorted" = some (.builtin "sorted") := by decide +kernel
  refine wpAny_Call_Name_kw (ld_blt I hg hs hbt ?_)
  refine PyProof.Rows.callWith_kw (args_cons (thn (he pins s σ H _ I h) fun u s1 ⟨r, lo, hi, t, t2, t3, H1, ex, hr, I1, n, elo, ehi, q1⟩ => args_nil ?_) h6) h1 h2 h3 h4
  subst ex
  subst elo
  subst ehi
  rw [h5]
  have nP : r ≠ P := fun z => by
    obtain ⟨_, _, _, O, _⟩ := q1
    obtain ⟨_, _, ps, hP, _⟩ := O.tabs _ hm
    have w1 : s1.heap.get? P = some { cls := .none, data := .fields ps } := I1.hok P _ hP
    have w2 := hr
    rw [z] at w2
    have w3 := w1.symm.trans w2
    cases w3
  refine sort_tail TB hcode hm hu hk hdef hfree hroom I1 q1 fun s' H' I' st kp0 Q' hq' => col_rng (X := X) (by exact I'.ok.hd hcalm) (kp0 r _ nP hr) ?_ Q' hq'
  obtain ⟨_, _, _, _, _, hz, _⟩ := q1
  rw [List.length_map, List.length_range] at hz
  exact hz
end
end Fs

set_option maxHeartbeats 4000000
/-! Figuresort: the two lambdas. -/
namespace Fs
open PySem PySem.Spec PyProof.Rows L2
open PySem.W (KeyPure dataLe)
/-- a tuple of whole numbers -/
def Row (K : PySem.W.Frag) (H : Hp) (v : V) (ns : List Int) : Prop := ∃ t, v = .ref t ∧ SqT K H t (ns.map V.int)
section
variable {X : Cx} {pins : List (Addr × Obj)} {σ : L2.St} {H : Hp} {s : Shared}
theorem Row.heap {v : V} {u : Value} {ns : List Int} (I : Inv X pins σ H s) (r : Row X.K H v ns) (e : RelV v u) : RowIs s.heap u ns := by
  obtain ⟨t, rfl, h⟩ := r
  obtain rfl : u = Value.ref t := e
  obtain ⟨its, rv, ht, _⟩ := I.tuple h
  exact ⟨t, its, rfl, ht, intsAre_of rv⟩
/-- what the lambda of told_order leans on -/
def kfTold (K : PySem.W.Frag) : L2.St → Hp → List Int → (Int → PyData) → Prop := fun σ H ns kd => ∃ (a : Addr) (vs : List V) (row : Int → List Int), σ[0]? = some (some (.ref a)) ∧ SqL K H a vs ∧
  (∀ n ∈ ns, 0 ≤ n ∧ n < 2 ^ 62 ∧ ∃ v, vs[n.toNat]? = some v ∧ Row K H v (row n)) ∧ ∀ n, kd n = .tuple ((row n).map .int)
/-- what the lambda of Pour.rising leans on -/
def kfRise (K : PySem.W.Frag) : L2.St → Hp → List Int → (Int → PyData) → Prop := fun σ H ns kd => ∃ (sa C dx a : Addr) (fs : List (Str × V)) (vs : List V) (row : Int → List Int), σ[0]? = some (some (.ref sa)) ∧ H sa = some (.ins C dx fs) ∧ Cls K C ∧ NoAttr K C "came" ∧
  fs.lookup ("came" : Str) = some (.ref a) ∧ SqL K H a vs ∧ (∀ n ∈ ns, 0 ≤ n ∧ n < 2 ^ 62 ∧ ∃ v, vs[n.toNat]? = some v ∧ Row K H v (row n)) ∧ ∀ n, kd n = .tuple [.tuple ((row n).map .int), .int n]
/-- the captured variable's cell -/
theorem cell_of {x : Str} {scope : Scope} {a : Addr} (I : Inv X pins σ H s) (hN : X.N[0]? = some x) (hσ : σ[0]? = some (some (V.ref a))) (hk : X.env.kindOf x = some .cell) (hfree : ∀ y ∈ scope.names, y.2 = .free → X.env.kindOf y.1 = some .cell) (hy : (x, NameKind.free) ∈ scope.names) :
    ∃ c, (cloFrom X.env.cells scope.names []).lookup x = some c ∧ s.heap.IsCell c (some (.ref a)) := by
  obtain ⟨m, hn, hl⟩ := I.loc
  obtain ⟨u, ru, q⟩ := hl 0 x _ hN hσ (.inr (.inl hk))
  obtain rfl : u = Value.ref a := ru
  rcases q with ⟨z, _⟩ | ⟨_, c, hc, hcell⟩
  · rw [hk] at z
    cases z
  · exact ⟨c, NdefX.clo_has (fun y hy e => I.ok.has _ (.inl (hfree y hy e))) hy hc, hcell⟩
variable {p1 p2 p3 p4 p5 p6 : Pos} {params : Arguments} {scope : Scope} {k : Nat}
theorem row_holds (hN : X.N[0]? = some ("rows" : Str)) (hk : X.env.kindOf "rows" = some .cell) (hsc : scope.names = [(("place" : Str), .local), ("rows", .free), ("tuple", .globalImplicit)]) (hkind : scope.kind = .function) (hco : scope.isCoroutine = false) (hgen : scope.isGenerator = false)
    (hbind : ∀ (qual : Str) (cl : List (Str × Addr)) (pm cdv ctv u : Value), bindArgs (PySem.W.kla_fn "<lambda>" qual params (.Call (.Name "tuple" p1) [.Subscript (.Name "rows" p2) (.Name "place" p3) p4] [] p5) scope cl pm cdv ctv) ⟨[u], []⟩ = pure [(("place" : Str), u)])
    (ht : X.mg "tuple" = none) (hd : X.A.depth + 4 < recursionLimit)
    (he : ∀ env : Env, starEach [.Subscript (.Name "rows" p2) (.Name "place" p3) p4] env = (false, eval (.Subscript (.Name "rows" p2) (.Name "place" p3) p4) env) :: starEach [] env) :
    KeyHolds X params (.Call (.Name "tuple" p1) [.Subscript (.Name "rows" p2) (.Name "place" p3) p4] [] p5) scope (kfTold X.K) := by
  intro pins σ H s ns kd I KF f c' pm ctv hf hrec n t hn h tk kp
  obtain ⟨a, vs, row, hσ, hs, hrow, hkd⟩ := KF
  obtain ⟨h0, h62, v, hv, hr⟩ := hrow n hn
  have hfree : ∀ y ∈ scope.names, y.2 = .free → X.env.kindOf y.1 = some .cell := fun y hy e => by
    rw [hsc] at hy
    simp only [List.mem_cons, List.not_mem_nil, or_false] at hy
    rcases hy with rfl | rfl | rfl
    · cases e
    · exact hk
    · cases e
  obtain ⟨cR, hc, hcell⟩ := cell_of (scope := scope) I hN hσ hk hfree (by rw [hsc]; simp)
  obtain ⟨its, rv, hl, _⟩ := I.list hs
  obtain ⟨u, hu, ru⟩ := rv.get hv
  have hrow1 := hr.heap I ru
  obtain ⟨mb, hb, hbb⟩ := I.mod.blt
  have kn : ∀ {b m}, X.base.Ns b m → h.Ns b m := fun {b m} z => (z.keeps I.bk).keeps kp
  rw [hkd]
  refine lam_pure (x := "place") (s := { s with heap := h, toks := tk }) (kp _ _ hf) hkind hco hgen (hbind _ _ _ _ _ _) (fun y hy e => ?_) (by rw [hsc]; rfl) ?_ (I.nolimit.keeps kp) (by show X.A.depth < recursionLimit; omega) fun h₁ tk1 kp1 hns => ?_
  · rw [hsc] at hy
    simp only [List.mem_cons, List.not_mem_nil, or_false] at hy
    rcases hy with rfl | rfl | rfl <;> cases e
  · obtain ⟨cc, oc, ws, tq, e, hoc, r⟩ := hrec
    exact ⟨cc, oc, ws, tq, e, kp _ _ hoc, r⟩
  · refine body_row (s := { s with heap := h, toks := tk }) (a := a) (cR := cR) (its := its) (v0 := u) (mg := X.mg) (mb := mb) kp1 hkind hns (by show scope.names.lookup _ = _; rw [hsc]; rfl) (by show scope.names.lookup _ = _; rw [hsc]; rfl) hc (by show scope.names.lookup _ = _; rw [hsc]; rfl)
      (kn I.mod.glob) ht (kn hb) (by rw [hbb _ (by decide)]; decide +kernel) ?_ ?_ h0 (by omega) hu (hrow1.keep kp) (he _)
    · obtain ⟨o, ho, r⟩ := hcell
      exact ⟨o, kp _ _ ho, r⟩
    · obtain ⟨o, ho, r⟩ := hl.isList
      exact ⟨o, kp _ _ ho, r⟩
theorem pair_holds (hN : X.N[0]? = some ("self" : Str)) (hk : X.env.kindOf "self" = some .cell) (hsc : scope.names = [(("number" : Str), .local), ("self", .free)]) (hkind : scope.kind = .function) (hco : scope.isCoroutine = false) (hgen : scope.isGenerator = false)
    (hbind : ∀ (qual : Str) (cl : List (Str × Addr)) (pm cdv ctv u : Value), bindArgs (PySem.W.kla_fn "<lambda>" qual params (.Tuple [.Subscript (.Attribute (.Name "self" p1) "came" p2) (.Name "number" p3) p4, .Name "number" p5] k p6) scope cl pm cdv ctv) ⟨[u], []⟩ = pure [(("number" : Str), u)])
    (hd : X.A.depth + 4 < recursionLimit) (hb : ∀ env : Env, attributeBase (.Name "self" p1) "came" env (eval (.Name "self" p1) env) = eval (.Name "self" p1) env)
    (he : ∀ env : Env, starEach [.Subscript (.Attribute (.Name "self" p1) "came" p2) (.Name "number" p3) p4, .Name "number" p5] env = (false, eval (.Subscript (.Attribute (.Name "self" p1) "came" p2) (.Name "number" p3) p4) env) :: starEach [.Name "number" p5] env)
    (he2 : ∀ env : Env, starEach [.Name "number" p5] env = (false, eval (.Name "number" p5) env) :: starEach [] env) :
    KeyHolds X params (.Tuple [.Subscript (.Attribute (.Name "self" p1) "came" p2) (.Name "number" p3) p4, .Name "number" p5] k p6) scope (kfRise X.K) := by
  intro pins σ H s ns kd I KF f c' pm ctv hf hrec n t hn h tk kp
  obtain ⟨sa, C, dx, a, fs, vs, row, hσ, hins, cC, nC, hfs, hs, hrow, hkd⟩ := KF
  obtain ⟨h0, h62, v, hv, hr⟩ := hrow n hn
  have hfree : ∀ y ∈ scope.names, y.2 = .free → X.env.kindOf y.1 = some .cell := fun y hy e => by
    rw [hsc] at hy
    simp only [List.mem_cons, List.not_mem_nil, or_false] at hy
    rcases hy with rfl | rfl
    · cases e
    · exact hk
  obtain ⟨cR, hc, hcell⟩ := cell_of (scope := scope) I hN hσ hk hfree (by rw [hsc]; simp)
  obtain ⟨its, rv, hl, _⟩ := I.list hs
  obtain ⟨u, hu, ru⟩ := rv.get hv
  have hrow1 := hr.heap I ru
  obtain ⟨mA, oM, rM, _, _, _⟩ := ins_get I.hok hins
  have hm : mA "came" = some (.ref a) := by
    obtain ⟨z, hz, rz⟩ := RelO.some_of (v := V.ref a) (o := mA "came") (by rw [← hfs]; exact rM "came")
    obtain rfl : z = Value.ref a := rz
    exact hz
  rw [hkd]
  refine lam_pure (x := "number") (s := { s with heap := h, toks := tk }) (kp _ _ hf) hkind hco hgen (hbind _ _ _ _ _ _) (fun y hy e => ?_) (by rw [hsc]; rfl) ?_ (I.nolimit.keeps kp) (by show X.A.depth < recursionLimit; omega) fun h₁ tk1 kp1 hns => ?_
  · rw [hsc] at hy
    simp only [List.mem_cons, List.not_mem_nil, or_false] at hy
    rcases hy with rfl | rfl <;> cases e
  · obtain ⟨cc, oc, ws, tq, e, hoc, r⟩ := hrec
    exact ⟨cc, oc, ws, tq, e, kp _ _ hoc, r⟩
  · refine body_pair (s := { s with heap := h, toks := tk }) (a := a) (cR := cR) (its := its) (v0 := u) (K := X.K) kp1 hkind hns (by show scope.names.lookup _ = _; rw [hsc]; rfl) (by show scope.names.lookup _ = _; rw [hsc]; rfl) hc
      ?_ (fun b o e => kp b o (I.kIn b o e)) (objM_keep kp oM) cC nC hm ?_ h0 (by omega) hu (hrow1.keep kp) (hb _) (he _) (he2 _)
    · obtain ⟨o, ho, r⟩ := hcell
      exact ⟨o, kp _ _ ho, r⟩
    · obtain ⟨o, ho, r⟩ := hl.isList
      exact ⟨o, kp _ _ ho, r⟩
end
end Fs

set_option maxHeartbeats 4000000
/-! Figuresort: rules that the layer lacks. -/
namespace Fs
open PySem PySem.Spec PyProof.Rows L2
section
variable {X : Cx}
/-- xs[i], for an augmented store -/
theorem get_list : PGet X (rIxL X.K) := by
  intro pins s σ H x y v u Q I rx ry h
  obtain ⟨p, xs, i, z, rfl, rfl, hq, he, q⟩ := h
  cases rx
  obtain ⟨t, rfl⟩ := ry
  obtain ⟨its, r, pl, hz⟩ := I.list hq
  obtain ⟨j, h1, h2, h3, h4, h5⟩ := atI_get he
  obtain ⟨w, ew, rw'⟩ := r.get h2
  have hl := r.length
  have hn := line63
  have fin : EP X pins σ Q w s := ⟨z, H, I, rw', q⟩
  by_cases h0 : 0 ≤ i
  · have hj : i.toNat = j := Option.some.inj ((seqIndex_of h0 h5).symm.trans h1)
    exact wpAny_getItem_list pl.isList h0 (by omega) (by rw [hj]; simpa using ew) fin
  · have hj : (i + (its.toArray.size : Int)).toNat = j := by
      rw [seqIndex_neg (by omega) h4] at h1
      rw [List.size_toArray, ← hl]
      exact Option.some.inj h1
    exact wpAny_getItem_list_neg pl.isList (by omega) (by rw [List.size_toArray] <;> omega) (by omega) (by rw [hj]; simpa using ew) fin
/-- xs[a:b] = ys, a list that stands -/
def gSlice (to : TE) (tl th : TO) : TG := fun v σ H Q => to σ H fun o H1 => tl σ H1 fun lo H2 => th σ H2 fun hi H3 => ∃ (l b : Addr) (xs ys : List V) (a c : Int), o = .ref l ∧ v = .ref b ∧ lo = some a ∧ hi = some c ∧ H3 l = some (.lst xs) ∧ H3 b = some (.lst ys) ∧ l ≠ b ∧
  0 ≤ a ∧ a ≤ c ∧ c ≤ xs.length ∧ xs.length + ys.length ≤ sizeLine ∧ Q σ (upd H3 l (.lst (xs.take a.toNat ++ ys ++ xs.drop c.toNat)))
theorem pg_slice {o : Expr} {lo hi : Option Expr} {to : TE} {tl th : TO} {pos p2 : Pos} (ho : PE X o to) (hl : PO X lo tl) (hh : PO X hi th)
    (ha : ∀ v, assign (.Subscript o (.Slice lo hi none p2) pos) X.env v = (do
      let ov ← holding [v] (eval o X.env)
      let iv ← holding [v, ov] (eval (.Slice lo hi none p2) X.env)
      standAt pos
      holding [v, ov, iv] (setItem ov iv v)
      release [iv, v, ov] []) := by intro _; rfl) : PG X (.Subscript o (.Slice lo hi none p2) pos) (gSlice to tl th) := by
  refine ⟨fun pins s σ H v u Q I r h => ?_⟩
  rw [ha]
  refine wpAny_bind (wpAny_holding (thn (ho.run pins s σ H _ I h) fun ov s1 ⟨x, H1, I1, r1, q1⟩ => wpAny_bind (wpAny_holding ?_)))
  refine wpAny_Slice (thn (hl.run pins s1 σ H1 _ I1 q1) fun vl s2 ⟨lo', H2, I2, pl, q2⟩ => thn (hh.run pins s2 σ H2 _ I2 q2) fun vu s3 ⟨hi', H3, I3, pu, q3⟩ => ?_)
  obtain ⟨l, b, xs, ys, a, c, rfl, rfl, rfl, rfl, hH, hB, ne, h0, hac, hc, hz, q⟩ := q3
  obtain rfl : ov = Value.ref l := r1
  obtain rfl : u = Value.ref b := r
  cases pl with
  | int _ t1 =>
    cases pu with
    | int _ t2 =>
      rw [evalPart_none]
      refine wpAny_pure ?_
      have I4 : Inv X pins σ H3 { s3 with heap := s3.heap.push { cls := .type "slice", data := .fields #[.int a t1, .int c t2, .none] } } := I3.kept (t' := s3.toks) fun b ob q => Heap.get?_push_of_some _ q
      refine wpAny_bind (wpAny_standAt (wpAny_bind (wpAny_holding (set_slice (vl := .int a t1) (vu := .int c t2) I4 hH hB ne (Heap.IsSliceOf.new ..) ⟨t1, rfl⟩ ⟨t2, rfl⟩ h0 hac hc hz fun s' I' => ?_))))
      exact wpAny_release ⟨σ, _, I', q⟩
/-! ### max, min with a default -/
theorem maxOf_spec : ∀ (ys : List Int) (y : Int), PySem.W.maxOf y ys ∈ y :: ys ∧ ∀ z ∈ y :: ys, z ≤ PySem.W.maxOf y ys
  | [], y => ⟨List.mem_cons_self .., fun z hz => by rw [List.mem_singleton.mp hz]; exact Int.le_refl _⟩
  | x :: r, y => by
    have e : PySem.W.maxOf y (x :: r) = PySem.W.maxOf (if y < x then x else y) r := by
      show List.foldl _ _ r = List.foldl _ _ r
      congr 1
      show (if decide (y < x) = true then x else y) = _
      by_cases h : y < x <;> simp [h]
    obtain ⟨h1, h2⟩ := maxOf_spec r (if y < x then x else y)
    rw [e]
    by_cases h : y < x
    · rw [if_pos h] at h1 h2 ⊢
      refine ⟨List.mem_cons_of_mem _ h1, fun z hz => ?_⟩
      rcases List.mem_cons.mp hz with rfl | hz
      · exact Int.le_trans (Int.le_of_lt h) (h2 x (List.mem_cons_self ..))
      · exact h2 z hz
    · rw [if_neg h] at h1 h2 ⊢
      refine ⟨?_, fun z hz => ?_⟩
      · rcases List.mem_cons.mp h1 with z | z
        · rw [z]
          exact List.mem_cons_self ..
        · exact List.mem_cons_of_mem _ (List.mem_cons_of_mem _ z)
      · rcases List.mem_cons.mp hz with rfl | hz
        · exact h2 z (List.mem_cons_self ..)
        · rcases List.mem_cons.mp hz with rfl | hz
          · exact Int.le_trans (Int.not_lt.mp h) (h2 y (List.mem_cons_self ..))
          · exact h2 z (List.mem_cons_of_mem _ hz)
theorem minOf_spec : ∀ (ys : List Int) (y : Int), PySem.W.minOf y ys ∈ y :: ys ∧ ∀ z ∈ y :: ys, PySem.W.minOf y ys ≤ z
  | [], y => ⟨List.mem_cons_self .., fun z hz => by rw [List.mem_singleton.mp hz]; exact Int.le_refl _⟩
  | x :: r, y => by
    have e : PySem.W.minOf y (x :: r) = PySem.W.minOf (if x < y then x else y) r := by
      show List.foldl _ _ r = List.foldl _ _ r
      congr 1
      show (if decide (x < y) = true then x else y) = _
      by_cases h : x < y <;> simp [h]
    obtain ⟨h1, h2⟩ := minOf_spec r (if x < y then x else y)
    rw [e]
    by_cases h : x < y
    · rw [if_pos h] at h1 h2 ⊢
      refine ⟨List.mem_cons_of_mem _ h1, fun z hz => ?_⟩
      rcases List.mem_cons.mp hz with rfl | hz
      · exact Int.le_trans (h2 x (List.mem_cons_self ..)) (Int.le_of_lt h)
      · exact h2 z hz
    · rw [if_neg h] at h1 h2 ⊢
      refine ⟨?_, fun z hz => ?_⟩
      · rcases List.mem_cons.mp h1 with z | z
        · rw [z]
          exact List.mem_cons_self ..
        · exact List.mem_cons_of_mem _ (List.mem_cons_of_mem _ z)
      · rcases List.mem_cons.mp hz with rfl | hz
        · exact h2 z (List.mem_cons_self ..)
        · rcases List.mem_cons.mp hz with rfl | hz
          · exact Int.le_trans (h2 y (List.mem_cons_self ..)) (Int.not_lt.mp h)
          · exact h2 z (List.mem_cons_of_mem _ hz)
/-- what max(.., default=d), min(.., default=d) ask and give -/
def rExtD (K : PySem.W.Frag) (le : Int → Int → Prop) : List V → List V → Hp → VK → Prop := fun vs zs H Q => ∃ (a : Addr) (ns : List Int) (d : Int), vs = [V.ref a] ∧ zs = [V.int d] ∧ SqL K H a (ns.map V.int) ∧
  ∀ m, (ns = [] ∧ m = d ∨ m ∈ ns ∧ ∀ y ∈ ns, le y m) → Q (.int m) H
theorem cr_maxDef (hc : X.calm = true) (hu : X.A.units + 64 < cLine) : CallRK X (.builtin "max") [Str.ofString "default"] (rExtD X.K (· ≤ ·)) := by
  intro pins s σ H vs zs us ws Q I r rz h
  obtain ⟨a, ns, d, rfl, rfl, hs, h0⟩ := h
  obtain rfl := Vals.ref1 r
  obtain ⟨w1, rfl, t, rfl⟩ := vals1 rz
  obtain ⟨its, rv, hl, _⟩ := I.list hs
  refine PySem.W.max_list_datum_default (α := Int) (xs := ns) (I.ok.hd hc) hl.isList (by simpa using PySem.W.HoldAll.of_ints rv.ints) (by show X.A.units + 1 + 0 < cLine; omega) (fun e h' tk k => ⟨.int d, H, I.kept k, ⟨t, rfl⟩, h0 d (.inl ⟨e, rfl⟩)⟩) fun y ys i v h' tk e hi hh k => ?_
  obtain ⟨u, rfl⟩ := PySem.W.int_of_holds hh
  obtain ⟨m1, m2⟩ := maxOf_spec ys y
  exact ⟨.int _, H, I.kept k, ⟨u, rfl⟩, h0 _ (.inr ⟨by rw [e]; exact m1, by rw [e]; exact m2⟩)⟩
theorem cr_minDef (hc : X.calm = true) (hu : X.A.units + 64 < cLine) : CallRK X (.builtin "min") [Str.ofString "default"] (rExtD X.K (fun y m => m ≤ y)) := by
  intro pins s σ H vs zs us ws Q I r rz h
  obtain ⟨a, ns, d, rfl, rfl, hs, h0⟩ := h
  obtain rfl := Vals.ref1 r
  obtain ⟨w1, rfl, t, rfl⟩ := vals1 rz
  obtain ⟨its, rv, hl, _⟩ := I.list hs
  refine PySem.W.min_list_datum_default (α := Int) (xs := ns) (I.ok.hd hc) hl.isList (by simpa using PySem.W.HoldAll.of_ints rv.ints) (by show X.A.units + 1 + 0 < cLine; omega) (fun e h' tk k => ⟨.int d, H, I.kept k, ⟨t, rfl⟩, h0 d (.inl ⟨e, rfl⟩)⟩) fun y ys i v h' tk e hi hh k => ?_
  obtain ⟨u, rfl⟩ := PySem.W.int_of_holds hh
  obtain ⟨m1, m2⟩ := minOf_spec ys y
  exact ⟨.int _, H, I.kept k, ⟨u, rfl⟩, h0 _ (.inr ⟨by rw [e]; exact m1, by rw [e]; exact m2⟩)⟩
end
end Fs

set_option maxHeartbeats 4000000
/-! Figuresort: list(reversed(list)). -/
namespace Fs
open PySem PySem.Spec PyProof.Rows L2 RT
section
variable {prog : Program} {w : World} {A : Around} {E : Value → Shared → Prop} {s : Shared}
theorem init_rev {R : Result → Shared → Prop} {it l S : Addr} {items : Array Value} (hh : A.handled = none) (hit : s.heap.IsRevIter it l ((items.size : Int) - 1)) (hl : s.heap.IsList l items) (hne : l ≠ it) (hn : items.size ≤ sizeLine)
    (hS : s.heap.get? S = some { cls := .type "list", data := .seq #[] }) (hSi : S ≠ it) (hSl : S ≠ l)
    (hR : ∀ h' tk acc c, (∀ b o, b ≠ S → b ≠ it → s.heap.get? b = some o → h'.get? b = some o) → h'.get? S = some { cls := .type "list", dict := none, data := .seq acc c, slots := #[] } →
      ItemsOf (fun i v => items[items.size - 1 - i]? = some v) acc items.size → R (.ok (.ret .none)) { s with heap := h', toks := tk }) :
    wpAny (model prog w) A.in1 (Builtin.«list.__init__» ⟨[.ref S, .ref it], []⟩)
      (fun fin s' => match fin with | .done f => R (.ok f) s' | .again c' => c'.quiet = true ∧ codeAny (model prog w) A c' R s') (fun e s' => R (.error e) s') s := by
  have W := (Walks.listRev (prog := prog) (w := w) (A := A.in1) hh it l hne items).toS
  have hSf : S ∉ [it, l] := by
    simp only [List.mem_cons, List.not_mem_nil, or_false, not_or]
    exact ⟨hSi, hSl⟩
  show wpAny _ _ (do let old ← Builtin.List.listItems (.ref S); Builtin.List.listUpdate (.ref S) (fun _ => #[]); letGo old.toList.reverse; Builtin.List.listExtendWith (.ref S) (.ref it) .none) _ _ s
  refine wpAny_bind ?_
  unfold Builtin.List.listItems
  refine wpAny_bind (wpAny_seqItems hS rfl (wpAny_pure ?_))
  show wpAny _ _ (updateSeq S (fun _ => #[]) >>= fun _ => letGo (#[] : Array Value).toList.reverse >>= fun _ => Builtin.List.listExtendWith (.ref S) (.ref it) .none) _ _ s
  refine wpAny_bind (wpAny_updateSeq hS rfl ?_)
  have hS2 := Heap.get?_update_self (Obj.mapSeq (fun _ => (#[] : Array Value))) hS rfl
  have oth : ∀ b o, b ≠ S → s.heap.get? b = some o → (s.heap.update S (Obj.mapSeq (fun _ => (#[] : Array Value)))).get? b = some o :=
    fun b o hb e => (Heap.get?_update_other _ _ (Ne.symm hb)).trans e
  refine wpAny_bind (wpAny_letGo ?_)
  have hit1 : (s.heap.update S (Obj.mapSeq (fun _ => (#[] : Array Value)))).IsRevIter it l ((items.size : Int) - 1) := hit.at fun o e => oth it o (Ne.symm hSi) e
  have hl1 : (s.heap.update S (Obj.mapSeq (fun _ => (#[] : Array Value)))).IsList l items := by
    obtain ⟨o, ho, r⟩ := hl
    exact ⟨o, oth l o (Ne.symm hSl) ho, r⟩
  have hT : ({ s with heap := s.heap.update S (Obj.mapSeq (fun _ => (#[] : Array Value))) } : Shared).TypeIs (.ref it) "list_reverseiterator" := Heap.IsRevIter.typeIs (s := { s with heap := s.heap.update S (Obj.mapSeq (fun _ => (#[] : Array Value))) }) hit1
  have h1 : Builtin.List.listSameRef (.ref S) (.ref it) = false := by simp [Builtin.List.listSameRef, hSi]
  unfold Builtin.List.listExtendWith
  refine wpAny_bind (wpAny_typeOf hT ?_)
  rw [if_neg (by rw [h1]; decide)]
  refine wpAny_bind (wpAny_pyIter_revIter (s := { s with heap := s.heap.update S (Obj.mapSeq (fun _ => (#[] : Array Value))) }) hit1 (wpAny_bind (wpAny_holding ?_)))
  unfold Builtin.List.listLengthHint
  refine wpAny_bind (wpAny_specialOf hT nolen_lri ?_)
  show wpAny _ A.in1 (specialOf (Value.ref it) (Str.ofString "__length_hint__") >>= _) _ _ _
  refine wpAny_bind (wpAny_specialOf hT hint_lri ?_)
  generalize hid : ("list_reverseiterator.__length_hint__" : String) = id0
  wp_delta
  rw [show splitId id0 = some ("list_reverseiterator", "__length_hint__") from by subst hid; decide +kernel]
  subst hid
  refine wpAny_bind (wpAny_isInstance (b := true) hT (by rw [isSubtype_type]; kernel_rfl) (wpAny_pure ?_))
  rw [if_neg (by decide)]
  have e0 : ((items.size : Nat) : Int) - 1 - ((0 : Nat) : Int) = (items.size : Int) - 1 := by omega
  refine wpAny_pure ⟨plainId_quiet F.plain_extend_loop _, codeAny_extend_loopS W hn S hSf _ items.size 0 _ _ _ rfl (Nat.zero_le _) ⟨Nat.zero_le _, by rw [e0]; exact hit1, hl1⟩ hS2 (ItemsOf.nil _) fun s' acc c hm hS' hacc => ?_⟩
  rw [Moved.eq_with hm]
  refine hR s'.heap s'.toks acc c (fun b o hb hb2 e => hm.heap b o (fun z => ?_) (oth b o hb e)) hS' hacc
  rcases List.mem_cons.mp z with z | z
  · exact hb z
  · exact hb2 (List.mem_singleton.mp z)
theorem list_rev {it l : Addr} {items : Array Value} {Q : Value → Shared → Prop} (hh : A.handled = none) (hit : s.heap.IsRevIter it l ((items.size : Int) - 1)) (hl : s.heap.IsList l items) (hne : l ≠ it) (hn : items.size ≤ sizeLine)
    (hQ : ∀ h' tk acc c, (∀ b o, b ≠ it → s.heap.get? b = some o → h'.get? b = some o) → h'.get? s.heap.objs.size = some { cls := .type "list", dict := none, data := .seq acc c, slots := #[] } →
      ItemsOf (fun i v => items[items.size - 1 - i]? = some v) acc items.size → Q (.ref s.heap.objs.size) { s with heap := h', toks := tk }) :
    wpAny (model prog w) A (call (.type "list") [.ref it]) Q E s := by
  refine callType_codes (Q₁ := fun obj s₁ => obj = .ref s.heap.objs.size ∧ s₁ = { s with heap := s.heap.push { cls := .type "list", data := .seq #[] } }) F.called_list (F.typeCall_list_1 _) F.entry_list_init
    (code_list_new _ ⟨rfl, rfl⟩) fun obj s₁ h₁ => ?_
  obtain ⟨rfl, rfl⟩ := h₁
  have hS : (s.heap.push { cls := .type "list", data := .seq #[] }).get? s.heap.objs.size = some { cls := .type "list", data := .seq #[] } := Heap.get?_push_size _ rfl
  obtain ⟨oi, hoi, _⟩ := id hit
  obtain ⟨ol, hol, _⟩ := id hl
  refine ⟨⟨_, hS, rfl⟩, F.args_list_init_2 _ _, init_rev (A := A.in1) (s := { s with heap := s.heap.push { cls := .type "list", data := .seq #[] } }) hh (hit.at fun o e => Heap.get?_push_of_some _ e) (hl.push _) hne hn hS (Nat.ne_of_gt (Heap.lt_size hoi)) (Nat.ne_of_gt (Heap.lt_size hol)) fun h' tk acc c hk hS' hacc => ?_⟩
  exact ⟨rfl, hQ h' tk acc c (fun b o hb e => hk b o (Nat.ne_of_lt (Heap.lt_size e)) hb (Heap.get?_push_of_some _ e)) hS' hacc⟩
end
section
variable {X : Cx}
/-- list(reversed(e)), e a list: a new list -/
def tListRev (K : PySem.W.Frag) (te : TE) : TE := fun σ H Q => te σ H fun v H1 => ∃ (a : Addr) (xs : List V), v = .ref a ∧ SqL K H1 a xs ∧ ∀ q, H1 q = none → Q (.ref q) (upd H1 q (.lst xs.reverse))
theorem pe_listRev {e : Expr} {te : TE} {p p2 pos pos2 : Pos} (hc : X.calm = true) (hg : Gl X "list") (hm : X.mg "list" = none) (hg2 : Gl X "reversed") (hm2 : X.mg "reversed" = none) (he : PE X e te)
    (hs : starEach [e] X.env = (false, eval e X.env) :: starEach [] X.env := by rfl)
    (hs2 : starEach [.Call (.Name "reversed" p2) [e] [] pos2] X.env = (false, eval (.Call (.Name "reversed" p2) [e] [] pos2) X.env) :: starEach [] X.env := by rfl) :
    PE X (.Call (.Name "list" p) [.Call (.Name "reversed" p2) [e] [] pos2] [] pos) (tListRev X.K te) := by
  refine ⟨fun pins s σ H Q I h => ?_⟩
  refine Call_ (ld_blt I hg hm boot_list (PyProof.Rows.callWith_type1 (args_cons (Call_ (ld_blt I hg2 hm2 PyProof.Rows.boot_reversed (PyProof.Rows.callWith_type1 (args_cons (thn (he.run pins s σ H _ I h) fun u s1 ⟨v, H1, I1, r1, q1⟩ => args_nil ?_) hs) hs rfl))) hs2) hs2 rfl))
  obtain ⟨a, xs, rfl, hq, q⟩ := q1
  obtain rfl : u = Value.ref a := r1
  obtain ⟨its, rv, p', hz⟩ := I1.list hq
  refine call_reversed_list p'.isList (args_nil ?_)
  have k0 : ∀ b o, s1.heap.get? b = some o → (s1.heap.push (revObj a ((its.toArray.size : Int) - 1))).get? b = some o := fun b o e => Heap.get?_push_of_some _ e
  have I2 : Inv X pins σ H1 { s1 with heap := s1.heap.push (revObj a ((its.toArray.size : Int) - 1)) } := I1.kept (t' := s1.toks) k0
  have hl := p'.isList
  obtain ⟨ol, hol, _⟩ := id hl
  have hne : a ≠ s1.heap.objs.size := Nat.ne_of_lt (Heap.lt_size hol)
  have hn : its.toArray.size ≤ sizeLine := by rw [List.size_toArray, ← rv.length]; exact hz
  refine list_rev (s := { s1 with heap := s1.heap.push (revObj a ((its.toArray.size : Int) - 1)) }) (I1.ok.hd hc) ⟨_, Heap.get?_push_size _ rfl, rfl, rfl⟩ (hl.push _) hne hn fun h' tk acc c hk hS' hi => ?_
  have kk : ∀ b o, s1.heap.get? b = some o → h'.get? b = some o := fun b o e => hk b o (Nat.ne_of_lt (Heap.lt_size e)) (k0 b o e)
  have hsz : s1.heap.objs.size ≤ (s1.heap.push (revObj a ((its.toArray.size : Int) - 1))).objs.size := by rw [Heap.size_push]; exact Nat.le_succ _
  refine ⟨.ref _, upd H1 (s1.heap.push (revObj a ((its.toArray.size : Int) - 1))).objs.size (.lst xs.reverse), I1.laid (t' := tk) kk hsz ⟨by rw [List.length_reverse]; exact hz, acc.toList, c, vals_rev rv hi, ?_⟩, rfl, q _ (I1.hok.fresh hsz)⟩
  rw [Array.toArray_toList]
  exact hS'
end
end Fs

set_option maxHeartbeats 8000000
/-! Figuresort: set(list of whole numbers). -/
namespace Fs
open PySem PySem.Spec PyProof.Rows L2
abbrev newSet (w : World) : Obj := { cls := .type "set", dict := none, data := .set #[] 0 (.fresh 0 0 (!w.params.followText "set-order")) }

section
variable {P : Program} {w : World} {A : Around} {E : Value → Shared → Prop} {s : Shared}
theorem set_of_ints {l : Addr} {items : Array Value} (ns : List Int) {Q : Value → Shared → Prop} (hh : A.handled = none) (hl : s.heap.IsList l items) (hit : IntsAre items.toList ns) (hb : ns.length + 1 < scanBound)
    (h : ∀ (h' : Heap) (tk c : Nat), SetR w h' s.heap.objs.size (fun j => decide (j ∈ ns)) c → (∀ b o, s.heap.get? b = some o → h'.get? b = some o) → Q (.ref s.heap.objs.size) { s with heap := h', toks := tk }) :
    wpAny (model P w) A (call (.type "set") [.ref l]) Q E s := by
  have many : items.size = ns.length := by
    have q := IntsAre.length hit
    rw [Array.length_toList] at q
    exact q
  obtain ⟨c, tl, hmro⟩ := F.called_set.mro
  have hmade := F.called_set.made
  have hsub := F.called_set.sub
  refine wpAny_call (codeAny_of_tree ?_)
  show wpAny _ _ (callAny (.type "set") _) _ _ _
  refine wpAny_pure ⟨Code.quiet_builtin _ (by decide +kernel), codeAny_builtin F.entry_type_call ?_⟩
  rw [Around.under_plain (weight_type_call_type "set" [.ref l] []) rfl]
  have h1 := F.called_set.notType
  have h2 := F.called_set.canCreate
  have hct := F.typeCall_set_1 (.ref l)
  repeat (any_goals (first | assumption | wp_step))
  refine codeAny_mono (code_set_led1 (.ref l) (E := E) (Q₁ := fun obj s₁ => obj = .ref s.heap.objs.size ∧ s₁ = { s with heap := s.heap.push (newSet w) }) ⟨rfl, rfl⟩) fun r s₁ hr => ?_
  cases r with
  | error e => exact hr
  | ok fl =>
    cases fl with
    | ret obj =>
      obtain ⟨rfl, rfl⟩ := hr
      have hS : (s.heap.push (newSet w)).get? s.heap.objs.size = some (newSet w) := Heap.get?_push_size _ rfl
      have hT : Shared.TypeIs { s with heap := s.heap.push (newSet w) } (.ref s.heap.objs.size) "set" := ⟨_, hS, rfl⟩
      have hli := F.called_set.init.lookup
      have hbi := F.called_set.init.bind (.ref s.heap.objs.size)
      repeat (any_goals (first | assumption | wp_step))
      refine codeAny_mono (codeAny_call_builtin (R := wants (fun r s₂ => r = .none ∧ ∃ h' tk c, s₂ = { s with heap := h', toks := tk } ∧ SetR w h' s.heap.objs.size (fun j => decide (j ∈ ns)) c ∧
          (∀ b o, s.heap.get? b = some o → h'.get? b = some o)) E) F.called_set.init.plain F.entry_set_init (check_set_init_1 hT ?_)) fun r₂ s₂ hr₂ => ?_
      · obtain ⟨⟨oc, od, odat, osl⟩, hol, hcl, nl, hdl⟩ := hl
        simp only at hcl hdl
        subst hcl; subst hdl
        have hol' : (s.heap.push (newSet w)).get? l = some { cls := .type "list", dict := od, data := .seq items nl, slots := osl } := Heap.get?_push_of_some _ hol
        have hsls := F.sub_list_set
        have hslf := F.sub_list_frozenset
        have hne : (Value.type "list" == Value.type "dict") = false := by decide
        have hl1 : (s.heap.push (newSet w)).IsList l items := ⟨_, hol', rfl, nl, rfl⟩
        unfold Builtin.«set.__init__» noKeywords Builtin.Frozenset.updateFrom
        generalize hPI : pyIter = PI
        wp_walk
        subst hPI
        refine wpAny_pyIter_list hl1 (wpAny_bind (wpAny_runValue ?_))
        have hlS : l < s.heap.objs.size := Heap.lt_size hol
        have hh3 : A.in1.in1.in1.handled = none := by simp [hh]
        have hneI : l ≠ (s.heap.push (newSet w)).objs.size := by
          rw [Heap.size_push]
          exact Nat.ne_of_lt (Nat.lt_succ_of_lt hlS)
        have hSf : s.heap.objs.size ∉ [(s.heap.push (newSet w)).objs.size, l] := by
          rw [Heap.size_push]
          simp only [List.mem_cons, List.not_mem_nil, or_false, not_or]
          exact ⟨Nat.ne_of_lt (Nat.lt_succ_self _), Nat.ne_of_gt hlS⟩
        have hval : ∀ (i : Nat) (v : Value), items[i]? = some v → ∃ k t, ns[i]? = some k ∧ v = .int k t := fun i v hv => by
          have hi : i < ns.length := by rw [← many]; exact (Array.getElem?_eq_some_iff.mp hv).1
          obtain ⟨t, e⟩ := PyProof.Rows.IntsAre.int_at hit i v (by rw [Array.getElem?_toList]; exact hv)
          refine ⟨ns[i], t, List.getElem?_eq_getElem hi, ?_⟩
          rw [e, List.getD_eq_getElem?_getD, List.getElem?_eq_getElem hi] <;> rfl
        refine set_update_ints ((Walks.list hh3 _ l hneI items).toS) s.heap.objs.size
          hSf ns many hb hval (items.size - 0) 0 _ (by omega) (Nat.zero_le _) ⟨⟨_, Heap.get?_push_size _ rfl, rfl, rfl⟩, (hl1.push _)⟩ ⟨0, Nat.le_refl 0, setR_new_at (Heap.get?_push_of_some _ hS)⟩ fun s' c' hm hc' hS' => ?_
        obtain ⟨h', g2, d', tk', os'⟩ := s'
        have eg : g2 = s.gens := hm.gens
        have ed : d' = s.drawn := hm.drawn
        have eo : os' = s.os := hm.os
        subst eg; subst ed; subst eo
        refine wpAny_pure ?_
        show wpAny _ _ (ret Value.none) _ _ _
        refine wpAny_pure ⟨rfl, h', tk', c', rfl, hS', fun b o e => ?_⟩
        have hb0 : b < s.heap.objs.size := Heap.lt_size e
        have hb2 : b ≠ (s.heap.push (newSet w)).objs.size := by
          rw [Heap.size_push]
          exact Nat.ne_of_lt (Nat.lt_succ_of_lt hb0)
        refine hm.heap b o (fun z => ?_) (Heap.get?_push_of_some _ (Heap.get?_push_of_some _ e))
        rcases List.mem_cons.mp z with z | z
        · exact Nat.ne_of_lt hb0 z
        · exact hb2 (List.mem_singleton.mp z)
      · cases r₂ with
        | error e => exact hr₂
        | ok fl₂ =>
          cases fl₂ with
          | ret r =>
            obtain ⟨rfl, h', tk, c', rfl, hS', hk'⟩ := hr₂
            repeat (any_goals (first | assumption | wp_step))
            exact h _ _ _ hS' hk'
          | _ => exact hr₂.elim
    | _ => exact hr.elim
end
end Fs

set_option maxHeartbeats 4000000
/-! Figuresort: more rules that the layer lacks. -/
namespace Fs
open PySem PySem.Spec PyProof.Rows L2
theorem nodup_le {α : Type} [DecidableEq α] : ∀ (l m : List α), l.Nodup → (∀ x ∈ l, x ∈ m) → l.length ≤ m.length
  | [], _, _, _ => Nat.zero_le _
  | x :: l, m, nd, h => by
    obtain ⟨n1, n2⟩ := List.nodup_cons.mp nd
    have hx := h x (List.mem_cons_self ..)
    have ih := nodup_le l (m.erase x) n2 fun y hy => by
      have hne : y ≠ x := fun e => n1 (by rw [← e]; exact hy)
      exact (List.mem_erase_of_ne hne).mpr (h y (List.mem_cons_of_mem _ hy))
    have e := List.length_erase_of_mem hx
    have p : 0 < m.length := List.length_pos_of_mem hx
    rw [List.length_cons]
    omega
section
variable {X : Cx} {pins : List (Addr × Obj)} {σ : L2.St} {H : Hp} {s : Shared}
theorem setR_many {w : World} {h : Heap} {a : Addr} {ns : List Int} {c : Nat} (R : SetR w h a (fun j => decide (j ∈ ns)) c) : c ≤ ns.length ∧ (ns.Nodup → c = ns.length) := by
  obtain ⟨o, es, ep, t, _, _, _, _, nd, hm, _, _, hn, _⟩ := R
  have hl : (es.toList.map keyOf).length = c := by rw [List.length_map, Array.length_toList]; exact hn
  have sub : ∀ k, k ∈ es.toList.map keyOf ↔ k ∈ ns := fun k => by
    rw [← hm k]
    exact decide_eq_true_iff
  have h1 : c ≤ ns.length := by
    rw [← hl]
    exact nodup_le _ _ nd fun k hk => (sub k).mp hk
  refine ⟨h1, fun hd => Nat.le_antisymm h1 ?_⟩
  rw [← hl]
  exact nodup_le _ _ hd fun k hk => (sub k).mpr hk
/-- set(xs), xs a list of whole numbers -/
def rSetI (K : PySem.W.Frag) (w : World) : List V → Hp → VK → Prop := fun xs H Q => ∃ (l : Addr) (ns : List Int), xs = [.ref l] ∧ SqL K H l (ns.map V.int) ∧ ns.length ≤ 1000 ∧
  ∀ p c, H p = none → c ≤ ns.length → (ns.Nodup → c = ns.length) → Q (.ref p) (upd H p (SetO w p (fun j => decide (j ∈ ns)) c))
theorem cr_setI (hc : X.calm = true) : CallR X (.type "set") (rSetI X.K X.w) := by
  intro pins s σ H vs us Q I r h
  obtain ⟨l, ns, rfl, hs, hl, q⟩ := h
  rw [Vals.ref1 r]
  obtain ⟨its, rv, pl, _⟩ := I.list hs
  refine set_of_ints ns (I.ok.hd hc) pl.isList (by simpa using rv.ints) (by show ns.length + 1 < 4096; omega) fun h' tk c R kp => ?_
  obtain ⟨c1, c2⟩ := setR_many R
  exact ⟨.ref _, upd H s.heap.objs.size (SetO X.w s.heap.objs.size (fun j => decide (j ∈ ns)) c), I.laid (t' := tk) kp (Nat.le_refl _) (setO_new R), rfl, q _ c (I.hok.fresh (Nat.le_refl _)) c1 c2⟩
/-- len of such a set -/
def rLenSet (w : World) : List V → Hp → VK → Prop := fun xs H Q => ∃ (a : Addr) (S : Int → Bool) (n : Nat), xs = [.ref a] ∧ H a = some (SetO w a S n) ∧ Q (.int (n : Int)) H
theorem cr_lenSet : CallR X (.builtin "len") (rLenSet X.w) := by
  intro pins s σ H vs us Q I r h
  obtain ⟨a, S, n, rfl, ha, q⟩ := h
  rw [Vals.ref1 r]
  obtain ⟨o, es, ep, t, ho, hex, hd, _, _, _, hb, hf, hn, _⟩ := setO_get I ha
  have hb' : es.size < 4096 := hb
  refine call_len_set ho hex hd hf (by omega) ?_
  rw [hn]
  exact ⟨.int _, H, I.tok _, ⟨_, rfl⟩, q⟩
/-! ### a list against the empty one -/
def rEqNil (K : PySem.W.Frag) (neg : Bool) : R2 := fun x y H Q => ∃ a b xs, x = .ref a ∧ y = .ref b ∧ SqL K H a xs ∧ SqL K H b [] ∧ Q (.bl (if neg then !xs.isEmpty else xs.isEmpty)) H
theorem nil_sizes {its : List Value} {xs : List V} (r : Vals xs its) : xs.isEmpty = (its.toArray.size == 0) := by
  cases r <;> rfl
theorem op_eqNil (hu : X.A.units + 64 < cLine) : OpR X (compareOp .Eq) (rEqNil X.K false) := by
  intro pins s σ H x y v u Q I rx ry h
  obtain ⟨a, b, xs, rfl, rfl, hx, hy, q⟩ := h
  obtain rfl : v = Value.ref a := rx
  obtain rfl : u = Value.ref b := ry
  obtain ⟨i1, r1, p1, _⟩ := I.list hx
  obtain ⟨i2, r2, p2, _⟩ := I.list hy
  have e2 : i2 = [] := by cases r2; rfl
  subst e2
  show wpAny _ _ (richCompare .Eq _ _) _ _ _
  cases xs with
  | nil =>
    have e1 : i1 = [] := by cases r1; rfl
    subst e1
    exact SeqAt.RcAt.lists (e := fun _ => true) p1.isList p2.isList rfl (by omega) (fun j h1 => absurd h1 (by simp)) _ _ _ _ ⟨.bl _, H, I, rfl, q⟩
  | cons z zs =>
    cases r1 with
    | cons rz rr => exact SeqAt.RcAt.lists_lengths p1.isList p2.isList (by simp) (by omega) _ _ _ _ ⟨.bl _, H, I, rfl, q⟩
theorem op_neNil (hu : X.A.units + 64 < cLine) : OpR X (compareOp .NotEq) (rEqNil X.K true) := by
  intro pins s σ H x y v u Q I rx ry h
  obtain ⟨a, b, xs, rfl, rfl, hx, hy, q⟩ := h
  obtain rfl : v = Value.ref a := rx
  obtain rfl : u = Value.ref b := ry
  obtain ⟨i1, r1, p1, _⟩ := I.list hx
  obtain ⟨i2, r2, p2, _⟩ := I.list hy
  have e2 : i2 = [] := by cases r2; rfl
  subst e2
  show wpAny _ _ (richCompare .NotEq _ _) _ _ _
  cases xs with
  | nil =>
    have e1 : i1 = [] := by cases r1; rfl
    subst e1
    exact SeqAt.RcNeAt.lists (e := fun _ => true) p1.isList p2.isList rfl (by omega) (fun j h1 => absurd h1 (by simp)) _ _ _ _ ⟨.bl _, H, I, rfl, q⟩
  | cons z zs =>
    cases r1 with
    | cons rz rr => exact SeqAt.RcNeAt.lists_lengths p1.isList p2.isList (by simp) (by omega) _ _ _ _ ⟨.bl _, H, I, rfl, q⟩
/-- x in ys, data without a list's own == -/
def rInD (K : PySem.W.Frag) : R2 := fun x y H Q => ∃ d ds, Dp K H x d ∧ Dp K H y (.list ds) ∧ PyData.plainAll ds = true ∧ d.plain = true ∧ d.depth ≤ 8 ∧ Q (.bl (ds.any fun y => PyData.eqv y d)) H
theorem op_inD (hu : X.A.units + 64 < cLine) : OpR X (compareOp .In) (rInD X.K) := by
  intro pins s σ H x y v u Q I rx ry h
  obtain ⟨d, ds, hd, hds, pa, pd, dd, q⟩ := h
  obtain ⟨as, r1⟩ := Dp.reads I _ _ _ hd rx
  obtain ⟨bs, r2⟩ := Dp.reads I _ _ _ hds ry
  exact PySem.SeqAt.in_list_data r2 r1 pa pd (by have := Nat.min_le_right (PyData.depthAll ds) d.depth; omega) ⟨.bl _, H, I, rfl, q⟩
end
end Fs

set_option maxHeartbeats 4000000
/-! Figuresort: sorted of data. -/
namespace Fs
open PySem PySem.Spec PyProof.Rows L2
open PySem.W (AllAlike Sortable EachIs dataLe)
section
variable {X : Cx} {pins : List (Addr × Obj)} {σ : L2.St} {H : Hp} {s : Shared}
def sortD (xs : List V) (ds : List PyData) : List V := ((xs.zip ds).mergeSort (dataLe false Prod.snd)).map Prod.fst
/-- sorted(xs), xs of alike data -/
def rSortD (K : PySem.W.Frag) : List V → Hp → VK → Prop := fun vs H Q => ∃ (a : Addr) (xs : List V) (ds : List PyData), vs = [V.ref a] ∧ SqL K H a xs ∧ DpAll K H xs ds ∧ AllAlike ds ∧ Sortable ds ∧ xs.length ≤ 1000 ∧ (∀ d ∈ ds, d.depth ≤ 8) ∧
  ∀ p, H p = none → Q (.ref p) (upd H p (.lst (sortD xs ds)))
theorem DpAll.len {K : PySem.W.Frag} {H : Hp} : ∀ {xs : List V} {ds : List PyData}, DpAll K H xs ds → xs.length = ds.length
  | _, _, .nil => rfl
  | _, _, .cons _ t => congrArg (· + 1) (DpAll.len t)
theorem each_of (I : Inv X pins σ H s) : ∀ {xs : List V} {ds : List PyData} {us : List Value}, DpAll X.K H xs ds → Vals xs us → EachIs (fun v (b : V × PyData) => RelV b.1 v) us (xs.zip ds) ∧ EachIs (fun v (b : V × PyData) => ∃ as, Reads s.heap v b.2 as) us (xs.zip ds)
  | _, _, _, .nil, .nil => ⟨.nil, .nil⟩
  | _, _, _, .cons d t, .cons r q => by
    obtain ⟨h1, h2⟩ := each_of I t q
    exact ⟨.cons r h1, .cons (Dp.reads I _ _ _ d r) h2⟩
theorem vals_each : ∀ {us : List Value} {bs : List (V × PyData)}, EachIs (fun v (b : V × PyData) => RelV b.1 v) us bs → Vals (bs.map Prod.fst) us
  | _, _, .nil => .nil
  | _, _, .cons r t => .cons r (vals_each t)
theorem zip_snd {xs : List V} {ds : List PyData} (h : xs.length = ds.length) : (xs.zip ds).map Prod.snd = ds := List.map_snd_zip (Nat.le_of_eq h.symm)
theorem cr_sortD (hu : X.A.units + 64 < cLine) : CallR X (.builtin "sorted") (rSortD X.K) := by
  intro pins s σ H vs us Q I r h
  obtain ⟨a, xs, ds, rfl, hs, hd, hal, hsk, hl, hdep, q⟩ := h
  rw [Vals.ref1 r]
  obtain ⟨its, rv, pl, _⟩ := I.list hs
  have el := DpAll.len hd
  obtain ⟨e1, e2⟩ := each_of I hd rv
  have hz : (xs.zip ds).length = xs.length := by rw [List.length_zip, ← el, Nat.min_self]
  refine PySem.W.sorted_data (β := V × PyData) (enc := Prod.snd) pl.isList e1 e2 (by rw [zip_snd el]; exact hal) (by rw [zip_snd el]; exact hsk) (by rw [hz, sizeLine_eq]; omega) (fun b hb => ?_) fun out ho e => ?_
  · have hm : b.2 ∈ ds := (List.of_mem_zip (show (b.1, b.2) ∈ xs.zip ds from hb)).2
    have := hdep _ hm
    omega
  · obtain ⟨ep, he'⟩ := PyProof.Rows.sortedAll_at s.heap its (List.toArray out)
    have hlen : (sortD xs ds).length ≤ sizeLine := by
      unfold sortD
      rw [List.length_map, (List.mergeSort_perm _ _).length_eq, hz, sizeLine_eq]
      omega
    exact ⟨.ref _, upd H (s.heap.objs.size + 1) (.lst (sortD xs ds)), I.laid (t' := s.toks) (fun _ _ => PyProof.Rows.sortedAll_old) (Nat.le_succ _) ⟨hlen, out, ep, vals_each e, he'⟩, rfl, q _ (I.hok.fresh (Nat.le_succ _))⟩
end
end Fs

set_option maxHeartbeats 4000000
/-! Figuresort: texts repeated. -/
namespace Fs
open PySem PySem.Spec PyProof.Rows L2
section
variable {X : Cx}
def rMulS : R2 := fun x y H Q => ∃ z k, x = .str z ∧ y = .int k ∧ 0 ≤ k ∧ k ≤ 100 ∧ z.length ≤ 1000 ∧ Q (.str (Txt.mul z k)) H
theorem mulOk_small {z : Str} {k : Int} (h0 : 0 ≤ k) (h1 : k ≤ 100) (hz : z.length ≤ 1000) : MulOk z k := by
  have hm : z.length * k.toNat ≤ 100000 := by
    have e : k.toNat ≤ 100 := by omega
    calc z.length * k.toNat ≤ 1000 * 100 := Nat.mul_le_mul hz e
      _ = 100000 := by decide
  refine ⟨by simp; omega, fun h _ z1 => ?_, fun h _ => ?_⟩
  · have h2 : (1000 : Int) ≤ (2 ^ 63 - 1) / k := by
      refine (Int.le_ediv_iff_mul_le (by omega)).mpr ?_
      omega
    omega
  · show decide (z.length * k.toNat > sizeLine) = false
    rw [sizeLine_eq]
    simp
    omega
theorem op_mulS : OpR X (binaryOp .Mult) rMulS := by
  intro pins s σ H x y v u Q I rx ry h
  obtain ⟨z, k, rfl, rfl, h0, h1, hz, q⟩ := h
  obtain ⟨t, rfl⟩ := rx
  obtain ⟨t2, rfl⟩ := ry
  exact SB.mul (mulOk_small h0 h1 hz) fun t' k' => ⟨.str _, H, I.tok _, ⟨t', rfl⟩, q⟩
end
end Fs

set_option maxHeartbeats 4000000
/-! Figuresort: the program's top by names. -/
namespace Fs
open PySem PySem.Spec PyProof.Rows L2
abbrev FnP (K : PySem.W.Frag) (x qual : Str) (st : Stmt) (f : Addr) (fd : FuncData) : Prop := FunD K x qual (defArgs st) (defBody st) (defScope st) [] [] f fd
abbrev s_counts : Stmt := top 1
abbrev s_begins : Stmt := top 2
abbrev s_is_place : Stmt := top 16
abbrev s_is_order : Stmt := top 17
abbrev s_look_order : Stmt := top 18
abbrev s_look_as_many : Stmt := top 19
abbrev s_put : Stmt := top 20
abbrev s_back_of : Stmt := top 21
abbrev s_ring_from : Stmt := top 22
abbrev s_rings : Stmt := top 23
abbrev s_told_order : Stmt := top 24
abbrev s_Pour___init__ : Stmt := inClass (top 26) 0
abbrev s_Pour_rising : Stmt := inClass (top 26) 1
abbrev s_Pour_pour : Stmt := inClass (top 26) 2
abbrev s_Pour_heaps : Stmt := inClass (top 26) 3
abbrev s_Pour_order : Stmt := inClass (top 26) 4
abbrev s_moves_of_ringwalk : Stmt := top 28
abbrev s_RingWalk___init__ : Stmt := inClass (top 30) 0
abbrev s_RingWalk_lift : Stmt := inClass (top 30) 1
abbrev s_RingWalk_step : Stmt := inClass (top 30) 2
abbrev s_many_figures : Stmt := top 32
abbrev s_figures : Stmt := top 33
abbrev s_shared_factor : Stmt := top 39
abbrev s_least_bottom : Stmt := top 40
abbrev s_numbers_spelled : Stmt := top 41
abbrev s_letter_at : Stmt := top 42
abbrev s_texts_spelled : Stmt := top 43
abbrev s_spelled : Stmt := top 44
abbrev s_width_of : Stmt := top 46
abbrev s_put_by : Stmt := top 47
abbrev s_from_last : Stmt := top 48
abbrev s_parts_of : Stmt := top 51
abbrev s_from_first : Stmt := top 52
abbrev s_runs : Stmt := top 56
abbrev s_merged : Stmt := top 57
abbrev s_round_of : Stmt := top 58
abbrev s_ahead_of_runs : Stmt := top 59
abbrev s_joined : Stmt := top 60
abbrev s_by_runs : Stmt := top 61
abbrev s_done_by : Stmt := top 71
abbrev s_own_keys : Stmt := top 72
abbrev s_ordered : Stmt := top 73
abbrev s_are_figures : Stmt := top 86
abbrev s_number_read : Stmt := top 87
abbrev s_is_between : Stmt := top 88
abbrev s_part_read : Stmt := top 89
abbrev s_text_read : Stmt := top 90
abbrev s_key_read : Stmt := top 91
abbrev s_key_word : Stmt := top 92
abbrev s_numbers_word : Stmt := top 93
abbrev s_several : Stmt := top 94
abbrev s_Reading___init__ : Stmt := inClass (top 95) 0
abbrev s_Reading_take : Stmt := inClass (top 95) 1
abbrev s_Reading_take_kind : Stmt := inClass (top 95) 2
abbrev s_Reading_take_keys : Stmt := inClass (top 95) 3
abbrev s_Reading_take_ask : Stmt := inClass (top 95) 4
abbrev s_reading_of : Stmt := top 96
abbrev s_move_word : Stmt := top 98
abbrev s_all_moves : Stmt := top 99
abbrev s_Desk___init__ : Stmt := inClass (top 100) 0
abbrev s_Desk_written : Stmt := inClass (top 100) 1
abbrev s_Desk_own_order : Stmt := inClass (top 100) 2
abbrev s_Desk_pour_so_far : Stmt := inClass (top 100) 3
abbrev s_Desk_poured_answer : Stmt := inClass (top 100) 4
abbrev s_Desk_order_answer : Stmt := inClass (top 100) 5
abbrev s_Desk_answer : Stmt := inClass (top 100) 6
abbrev s_run : Stmt := top 101
abbrev s__law_tape : Stmt := top 103
abbrev s__law_draw : Stmt := top 104
abbrev s__law_many : Stmt := top 105
abbrev s__law_base : Stmt := top 106
abbrev s__law_key : Stmt := top 107
abbrev s__law_part : Stmt := top 108
abbrev s__law_keys : Stmt := top 109
abbrev s__law_order : Stmt := top 110
abbrev s__law_words : Stmt := top 111
abbrev s__law_sorted : Stmt := top 112
abbrev s__law_rings : Stmt := top 113
abbrev s__law_walk : Stmt := top 114
abbrev s__law_parted : Stmt := top 115
abbrev s__law_heaped : Stmt := top 116
abbrev s__law_are_answers : Stmt := top 117
abbrev s__law_great : Stmt := top 118
abbrev s__law_deed : Stmt := top 119
abbrev s__law_ask : Stmt := top 120
abbrev s_law : Stmt := top 121
structure Top (K : PySem.W.Frag) (mg : Str → Option Value) : Prop where
  len : mg "len" = none
  range : mg "range" = none
  list : mg "list" = none
  tuple : mg "tuple" = none
  zip : mg "zip" = none
  enumerate : mg "enumerate" = none
  reversed : mg "reversed" = none
  sorted : mg "sorted" = none
  sum : mg "sum" = none
  all : mg "all" = none
  int : mg "int" = none
  bool : mg "bool" = none
  str : mg "str" = none
  abs : mg "abs" = none
  isinstance : mg "isinstance" = none
  set_ : mg "set" = none
  max_ : mg "max" = none
  min_ : mg "min" = none
  c_NUMBER : ∃ t, mg "NUMBER" = some (.str "number" t)
  c_PART : ∃ t, mg "PART" = some (.str "part" t)
  c_LETTERS : ∃ t, mg "LETTERS" = some (.str "abcdefghijklmnopqrstuvwxyz" t)
  c_TEXT_BASE : ∃ t, mg "TEXT_BASE" = some (.int 27 t)
  c_LAST : ∃ t, mg "LAST" = some (.str "last" t)
  c_FIRST : ∃ t, mg "FIRST" = some (.str "first" t)
  c_RUNS : ∃ t, mg "RUNS" = some (.str "runs" t)
  c_FIGURES : ∃ t, mg "FIGURES" = some (.str "0123456789" t)
  c_KINDS : mg "KINDS" = some (.ref (He.ga K "KINDS"))
  q_KINDS : ∀ H, SqT K H (He.ga K "KINDS") [.str "number", .str "part", .str "text"]
  c_WAYS : mg "WAYS" = some (.ref (He.ga K "WAYS"))
  q_WAYS : ∀ H, SqT K H (He.ga K "WAYS") [.str "last", .str "first", .str "runs"]
  c_ASKS : mg "ASKS" = some (.ref (He.ga K "ASKS"))
  q_ASKS : ∀ H, SqT K H (He.ga K "ASKS") [.str "order", .str "back", .str "rings", .str "ahead", .str "cheapest", .str "walk", .str "puts", .str "poured", .str "heaps"]
  c_MOST_FIGURES : ∃ t, mg "MOST_FIGURES" = some (.int 18 t)
  c_MOST_BOTTOM : ∃ t, mg "MOST_BOTTOM" = some (.int 60 t)
  c_MOST_LETTERS : ∃ t, mg "MOST_LETTERS" = some (.int 20 t)
  c_MOST_KEYS : ∃ t, mg "MOST_KEYS" = some (.int 200 t)
  c_LEAST_BASE : ∃ t, mg "LEAST_BASE" = some (.int 2 t)
  c_MOST_BASE : ∃ t, mg "MOST_BASE" = some (.int 64 t)
  c_NONE : ∃ t, mg "NONE" = some (.str "-" t)
  g_Pour : mg "Pour" = some (.ref (He.ga K "Pour"))
  k_Pour : Cls K (He.ga K "Pour")
  mk_Pour : Mk K (He.ga K "Pour") (He.ma K (He.ga K "Pour") "__init__")
  n_Pour_came : NoAttr K (He.ga K "Pour") "came"
  n_Pour_own_heaps : NoAttr K (He.ga K "Pour") "own_heaps"
  n_Pour_moved : NoAttr K (He.ga K "Pour") "moved"
  g_RingWalk : mg "RingWalk" = some (.ref (He.ga K "RingWalk"))
  k_RingWalk : Cls K (He.ga K "RingWalk")
  mk_RingWalk : Mk K (He.ga K "RingWalk") (He.ma K (He.ga K "RingWalk") "__init__")
  n_RingWalk_own_things : NoAttr K (He.ga K "RingWalk") "own_things"
  n_RingWalk_held : NoAttr K (He.ga K "RingWalk") "held"
  n_RingWalk_waiting : NoAttr K (He.ga K "RingWalk") "waiting"
  n_RingWalk_done : NoAttr K (He.ga K "RingWalk") "done"
  g_Reading : mg "Reading" = some (.ref (He.ga K "Reading"))
  k_Reading : Cls K (He.ga K "Reading")
  mk_Reading : Mk K (He.ga K "Reading") (He.ma K (He.ga K "Reading") "__init__")
  n_Reading_kind : NoAttr K (He.ga K "Reading") "kind"
  n_Reading_base : NoAttr K (He.ga K "Reading") "base"
  n_Reading_taken : NoAttr K (He.ga K "Reading") "taken"
  n_Reading_poured : NoAttr K (He.ga K "Reading") "poured"
  g_Desk : mg "Desk" = some (.ref (He.ga K "Desk"))
  k_Desk : Cls K (He.ga K "Desk")
  mk_Desk : Mk K (He.ga K "Desk") (He.ma K (He.ga K "Desk") "__init__")
  n_Desk_kind : NoAttr K (He.ga K "Desk") "kind"
  n_Desk_base : NoAttr K (He.ga K "Desk") "base"
  n_Desk_own_keys : NoAttr K (He.ga K "Desk") "own_keys"
  n_Desk_own_pours : NoAttr K (He.ga K "Desk") "own_pours"
  d_counts : ∃ fd, FnP K "counts" "counts" s_counts (He.ga K "counts") fd
  g_counts : mg "counts" = some (.ref (He.ga K "counts"))
  d_begins : ∃ fd, FnP K "begins" "begins" s_begins (He.ga K "begins") fd
  g_begins : mg "begins" = some (.ref (He.ga K "begins"))
  d_is_place : ∃ fd, FnP K "is_place" "is_place" s_is_place (He.ga K "is_place") fd
  g_is_place : mg "is_place" = some (.ref (He.ga K "is_place"))
  d_is_order : ∃ fd, FnP K "is_order" "is_order" s_is_order (He.ga K "is_order") fd
  g_is_order : mg "is_order" = some (.ref (He.ga K "is_order"))
  d_look_order : ∃ fd, FnP K "look_order" "look_order" s_look_order (He.ga K "look_order") fd
  g_look_order : mg "look_order" = some (.ref (He.ga K "look_order"))
  d_look_as_many : ∃ fd, FnP K "look_as_many" "look_as_many" s_look_as_many (He.ga K "look_as_many") fd
  g_look_as_many : mg "look_as_many" = some (.ref (He.ga K "look_as_many"))
  d_put : ∃ fd, FnP K "put" "put" s_put (He.ga K "put") fd
  g_put : mg "put" = some (.ref (He.ga K "put"))
  d_back_of : ∃ fd, FnP K "back_of" "back_of" s_back_of (He.ga K "back_of") fd
  g_back_of : mg "back_of" = some (.ref (He.ga K "back_of"))
  d_ring_from : ∃ fd, FnP K "ring_from" "ring_from" s_ring_from (He.ga K "ring_from") fd
  g_ring_from : mg "ring_from" = some (.ref (He.ga K "ring_from"))
  d_rings : ∃ fd, FnP K "rings" "rings" s_rings (He.ga K "rings") fd
  g_rings : mg "rings" = some (.ref (He.ga K "rings"))
  d_told_order : ∃ fd, FnP K "told_order" "told_order" s_told_order (He.ga K "told_order") fd
  g_told_order : mg "told_order" = some (.ref (He.ga K "told_order"))
  d_Pour___init__ : ∃ fd, FnP K "__init__" "Pour.__init__" s_Pour___init__ (He.ma K (He.ga K "Pour") "__init__") fd
  d_Pour_rising : ∃ fd, FnP K "rising" "Pour.rising" s_Pour_rising (He.ma K (He.ga K "Pour") "rising") fd
  m_Pour_rising : Meth K (He.ga K "Pour") "rising" (He.ma K (He.ga K "Pour") "rising")
  d_Pour_pour : ∃ fd, FnP K "pour" "Pour.pour" s_Pour_pour (He.ma K (He.ga K "Pour") "pour") fd
  m_Pour_pour : Meth K (He.ga K "Pour") "pour" (He.ma K (He.ga K "Pour") "pour")
  d_Pour_heaps : ∃ fd, FnP K "heaps" "Pour.heaps" s_Pour_heaps (He.ma K (He.ga K "Pour") "heaps") fd
  m_Pour_heaps : Meth K (He.ga K "Pour") "heaps" (He.ma K (He.ga K "Pour") "heaps")
  d_Pour_order : ∃ fd, FnP K "order" "Pour.order" s_Pour_order (He.ma K (He.ga K "Pour") "order") fd
  m_Pour_order : Meth K (He.ga K "Pour") "order" (He.ma K (He.ga K "Pour") "order")
  d_moves_of_ringwalk : ∃ fd, FnP K "moves_of" "moves_of" s_moves_of_ringwalk (He.ga K "moves_of_ringwalk") fd
  g_moves_of_ringwalk : mg "moves_of_ringwalk" = some (.ref (He.ga K "moves_of_ringwalk"))
  d_RingWalk___init__ : ∃ fd, FnP K "__init__" "RingWalk.__init__" s_RingWalk___init__ (He.ma K (He.ga K "RingWalk") "__init__") fd
  d_RingWalk_lift : ∃ fd, FnP K "lift" "RingWalk.lift" s_RingWalk_lift (He.ma K (He.ga K "RingWalk") "lift") fd
  m_RingWalk_lift : Meth K (He.ga K "RingWalk") "lift" (He.ma K (He.ga K "RingWalk") "lift")
  d_RingWalk_step : ∃ fd, FnP K "step" "RingWalk.step" s_RingWalk_step (He.ma K (He.ga K "RingWalk") "step") fd
  m_RingWalk_step : Meth K (He.ga K "RingWalk") "step" (He.ma K (He.ga K "RingWalk") "step")
  d_many_figures : ∃ fd, FnP K "many_figures" "many_figures" s_many_figures (He.ga K "many_figures") fd
  g_many_figures : mg "many_figures" = some (.ref (He.ga K "many_figures"))
  d_figures : ∃ fd, FnP K "figures" "figures" s_figures (He.ga K "figures") fd
  g_figures : mg "figures" = some (.ref (He.ga K "figures"))
  d_shared_factor : ∃ fd, FnP K "shared_factor" "shared_factor" s_shared_factor (He.ga K "shared_factor") fd
  g_shared_factor : mg "shared_factor" = some (.ref (He.ga K "shared_factor"))
  d_least_bottom : ∃ fd, FnP K "least_bottom" "least_bottom" s_least_bottom (He.ga K "least_bottom") fd
  g_least_bottom : mg "least_bottom" = some (.ref (He.ga K "least_bottom"))
  d_numbers_spelled : ∃ fd, FnP K "numbers_spelled" "numbers_spelled" s_numbers_spelled (He.ga K "numbers_spelled") fd
  g_numbers_spelled : mg "numbers_spelled" = some (.ref (He.ga K "numbers_spelled"))
  d_letter_at : ∃ fd, FnP K "letter_at" "letter_at" s_letter_at (He.ga K "letter_at") fd
  g_letter_at : mg "letter_at" = some (.ref (He.ga K "letter_at"))
  d_texts_spelled : ∃ fd, FnP K "texts_spelled" "texts_spelled" s_texts_spelled (He.ga K "texts_spelled") fd
  g_texts_spelled : mg "texts_spelled" = some (.ref (He.ga K "texts_spelled"))
  d_spelled : ∃ fd, FnP K "spelled" "spelled" s_spelled (He.ga K "spelled") fd
  g_spelled : mg "spelled" = some (.ref (He.ga K "spelled"))
  d_width_of : ∃ fd, FnP K "width_of" "width_of" s_width_of (He.ga K "width_of") fd
  g_width_of : mg "width_of" = some (.ref (He.ga K "width_of"))
  d_put_by : ∃ fd, FnP K "put_by" "put_by" s_put_by (He.ga K "put_by") fd
  g_put_by : mg "put_by" = some (.ref (He.ga K "put_by"))
  d_from_last : ∃ fd, FnP K "from_last" "from_last" s_from_last (He.ga K "from_last") fd
  g_from_last : mg "from_last" = some (.ref (He.ga K "from_last"))
  d_parts_of : ∃ fd, FnP K "parts_of" "parts_of" s_parts_of (He.ga K "parts_of") fd
  g_parts_of : mg "parts_of" = some (.ref (He.ga K "parts_of"))
  d_from_first : ∃ fd, FnP K "from_first" "from_first" s_from_first (He.ga K "from_first") fd
  g_from_first : mg "from_first" = some (.ref (He.ga K "from_first"))
  d_runs : ∃ fd, FnP K "runs" "runs" s_runs (He.ga K "runs") fd
  g_runs : mg "runs" = some (.ref (He.ga K "runs"))
  d_merged : ∃ fd, FnP K "merged" "merged" s_merged (He.ga K "merged") fd
  g_merged : mg "merged" = some (.ref (He.ga K "merged"))
  d_round_of : ∃ fd, FnP K "round_of" "round_of" s_round_of (He.ga K "round_of") fd
  g_round_of : mg "round_of" = some (.ref (He.ga K "round_of"))
  d_ahead_of_runs : ∃ fd, FnP K "ahead_of_runs" "ahead_of_runs" s_ahead_of_runs (He.ga K "ahead_of_runs") fd
  g_ahead_of_runs : mg "ahead_of_runs" = some (.ref (He.ga K "ahead_of_runs"))
  d_joined : ∃ fd, FnP K "joined" "joined" s_joined (He.ga K "joined") fd
  g_joined : mg "joined" = some (.ref (He.ga K "joined"))
  d_by_runs : ∃ fd, FnP K "by_runs" "by_runs" s_by_runs (He.ga K "by_runs") fd
  g_by_runs : mg "by_runs" = some (.ref (He.ga K "by_runs"))
  d_done_by : ∃ fd, FnP K "done_by" "done_by" s_done_by (He.ga K "done_by") fd
  g_done_by : mg "done_by" = some (.ref (He.ga K "done_by"))
  d_own_keys : ∃ fd, FnP K "own_keys" "own_keys" s_own_keys (He.ga K "own_keys") fd
  g_own_keys : mg "own_keys" = some (.ref (He.ga K "own_keys"))
  d_ordered : ∃ fd, FnP K "ordered" "ordered" s_ordered (He.ga K "ordered") fd
  g_ordered : mg "ordered" = some (.ref (He.ga K "ordered"))
  d_are_figures : ∃ fd, FnP K "are_figures" "are_figures" s_are_figures (He.ga K "are_figures") fd
  g_are_figures : mg "are_figures" = some (.ref (He.ga K "are_figures"))
  d_number_read : ∃ fd, FnP K "number_read" "number_read" s_number_read (He.ga K "number_read") fd
  g_number_read : mg "number_read" = some (.ref (He.ga K "number_read"))
  d_is_between : ∃ fd, FnP K "is_between" "is_between" s_is_between (He.ga K "is_between") fd
  g_is_between : mg "is_between" = some (.ref (He.ga K "is_between"))
  d_part_read : ∃ fd, FnP K "part_read" "part_read" s_part_read (He.ga K "part_read") fd
  g_part_read : mg "part_read" = some (.ref (He.ga K "part_read"))
  d_text_read : ∃ fd, FnP K "text_read" "text_read" s_text_read (He.ga K "text_read") fd
  g_text_read : mg "text_read" = some (.ref (He.ga K "text_read"))
  d_key_read : ∃ fd, FnP K "key_read" "key_read" s_key_read (He.ga K "key_read") fd
  g_key_read : mg "key_read" = some (.ref (He.ga K "key_read"))
  d_key_word : ∃ fd, FnP K "key_word" "key_word" s_key_word (He.ga K "key_word") fd
  g_key_word : mg "key_word" = some (.ref (He.ga K "key_word"))
  d_numbers_word : ∃ fd, FnP K "numbers_word" "numbers_word" s_numbers_word (He.ga K "numbers_word") fd
  g_numbers_word : mg "numbers_word" = some (.ref (He.ga K "numbers_word"))
  d_several : ∃ fd, FnP K "several" "several" s_several (He.ga K "several") fd
  g_several : mg "several" = some (.ref (He.ga K "several"))
  d_Reading___init__ : ∃ fd, FnP K "__init__" "Reading.__init__" s_Reading___init__ (He.ma K (He.ga K "Reading") "__init__") fd
  d_Reading_take : ∃ fd, FnP K "take" "Reading.take" s_Reading_take (He.ma K (He.ga K "Reading") "take") fd
  m_Reading_take : Meth K (He.ga K "Reading") "take" (He.ma K (He.ga K "Reading") "take")
  d_Reading_take_kind : ∃ fd, FnP K "take_kind" "Reading.take_kind" s_Reading_take_kind (He.ma K (He.ga K "Reading") "take_kind") fd
  m_Reading_take_kind : Meth K (He.ga K "Reading") "take_kind" (He.ma K (He.ga K "Reading") "take_kind")
  d_Reading_take_keys : ∃ fd, FnP K "take_keys" "Reading.take_keys" s_Reading_take_keys (He.ma K (He.ga K "Reading") "take_keys") fd
  m_Reading_take_keys : Meth K (He.ga K "Reading") "take_keys" (He.ma K (He.ga K "Reading") "take_keys")
  d_Reading_take_ask : ∃ fd, FnP K "take_ask" "Reading.take_ask" s_Reading_take_ask (He.ma K (He.ga K "Reading") "take_ask") fd
  m_Reading_take_ask : Meth K (He.ga K "Reading") "take_ask" (He.ma K (He.ga K "Reading") "take_ask")
  d_reading_of : ∃ fd, FnP K "reading_of" "reading_of" s_reading_of (He.ga K "reading_of") fd
  g_reading_of : mg "reading_of" = some (.ref (He.ga K "reading_of"))
  d_move_word : ∃ fd, FnP K "move_word" "move_word" s_move_word (He.ga K "move_word") fd
  g_move_word : mg "move_word" = some (.ref (He.ga K "move_word"))
  d_all_moves : ∃ fd, FnP K "all_moves" "all_moves" s_all_moves (He.ga K "all_moves") fd
  g_all_moves : mg "all_moves" = some (.ref (He.ga K "all_moves"))
  d_Desk___init__ : ∃ fd, FnP K "__init__" "Desk.__init__" s_Desk___init__ (He.ma K (He.ga K "Desk") "__init__") fd
  d_Desk_written : ∃ fd, FnP K "written" "Desk.written" s_Desk_written (He.ma K (He.ga K "Desk") "written") fd
  m_Desk_written : Meth K (He.ga K "Desk") "written" (He.ma K (He.ga K "Desk") "written")
  d_Desk_own_order : ∃ fd, FnP K "own_order" "Desk.own_order" s_Desk_own_order (He.ma K (He.ga K "Desk") "own_order") fd
  m_Desk_own_order : Meth K (He.ga K "Desk") "own_order" (He.ma K (He.ga K "Desk") "own_order")
  d_Desk_pour_so_far : ∃ fd, FnP K "pour_so_far" "Desk.pour_so_far" s_Desk_pour_so_far (He.ma K (He.ga K "Desk") "pour_so_far") fd
  m_Desk_pour_so_far : Meth K (He.ga K "Desk") "pour_so_far" (He.ma K (He.ga K "Desk") "pour_so_far")
  d_Desk_poured_answer : ∃ fd, FnP K "poured_answer" "Desk.poured_answer" s_Desk_poured_answer (He.ma K (He.ga K "Desk") "poured_answer") fd
  m_Desk_poured_answer : Meth K (He.ga K "Desk") "poured_answer" (He.ma K (He.ga K "Desk") "poured_answer")
  d_Desk_order_answer : ∃ fd, FnP K "order_answer" "Desk.order_answer" s_Desk_order_answer (He.ma K (He.ga K "Desk") "order_answer") fd
  m_Desk_order_answer : Meth K (He.ga K "Desk") "order_answer" (He.ma K (He.ga K "Desk") "order_answer")
  d_Desk_answer : ∃ fd, FnP K "answer" "Desk.answer" s_Desk_answer (He.ma K (He.ga K "Desk") "answer") fd
  m_Desk_answer : Meth K (He.ga K "Desk") "answer" (He.ma K (He.ga K "Desk") "answer")
  d_run : ∃ fd, FnP K "run" "run" s_run (He.ga K "run") fd
  g_run : mg "run" = some (.ref (He.ga K "run"))
  d__law_tape : ∃ fd, FnP K "_law_tape" "_law_tape" s__law_tape (He.ga K "_law_tape") fd
  g__law_tape : mg "_law_tape" = some (.ref (He.ga K "_law_tape"))
  d__law_draw : ∃ fd, FnP K "_law_draw" "_law_draw" s__law_draw (He.ga K "_law_draw") fd
  g__law_draw : mg "_law_draw" = some (.ref (He.ga K "_law_draw"))
  d__law_many : ∃ fd, FnP K "_law_many" "_law_many" s__law_many (He.ga K "_law_many") fd
  g__law_many : mg "_law_many" = some (.ref (He.ga K "_law_many"))
  d__law_base : ∃ fd, FnP K "_law_base" "_law_base" s__law_base (He.ga K "_law_base") fd
  g__law_base : mg "_law_base" = some (.ref (He.ga K "_law_base"))
  d__law_key : ∃ fd, FnP K "_law_key" "_law_key" s__law_key (He.ga K "_law_key") fd
  g__law_key : mg "_law_key" = some (.ref (He.ga K "_law_key"))
  d__law_part : ∃ fd, FnP K "_law_part" "_law_part" s__law_part (He.ga K "_law_part") fd
  g__law_part : mg "_law_part" = some (.ref (He.ga K "_law_part"))
  d__law_keys : ∃ fd, FnP K "_law_keys" "_law_keys" s__law_keys (He.ga K "_law_keys") fd
  g__law_keys : mg "_law_keys" = some (.ref (He.ga K "_law_keys"))
  d__law_order : ∃ fd, FnP K "_law_order" "_law_order" s__law_order (He.ga K "_law_order") fd
  g__law_order : mg "_law_order" = some (.ref (He.ga K "_law_order"))
  d__law_words : ∃ fd, FnP K "_law_words" "_law_words" s__law_words (He.ga K "_law_words") fd
  g__law_words : mg "_law_words" = some (.ref (He.ga K "_law_words"))
  d__law_sorted : ∃ fd, FnP K "_law_sorted" "_law_sorted" s__law_sorted (He.ga K "_law_sorted") fd
  g__law_sorted : mg "_law_sorted" = some (.ref (He.ga K "_law_sorted"))
  d__law_rings : ∃ fd, FnP K "_law_rings" "_law_rings" s__law_rings (He.ga K "_law_rings") fd
  g__law_rings : mg "_law_rings" = some (.ref (He.ga K "_law_rings"))
  d__law_walk : ∃ fd, FnP K "_law_walk" "_law_walk" s__law_walk (He.ga K "_law_walk") fd
  g__law_walk : mg "_law_walk" = some (.ref (He.ga K "_law_walk"))
  d__law_parted : ∃ fd, FnP K "_law_parted" "_law_parted" s__law_parted (He.ga K "_law_parted") fd
  g__law_parted : mg "_law_parted" = some (.ref (He.ga K "_law_parted"))
  d__law_heaped : ∃ fd, FnP K "_law_heaped" "_law_heaped" s__law_heaped (He.ga K "_law_heaped") fd
  g__law_heaped : mg "_law_heaped" = some (.ref (He.ga K "_law_heaped"))
  d__law_are_answers : ∃ fd, FnP K "_law_are_answers" "_law_are_answers" s__law_are_answers (He.ga K "_law_are_answers") fd
  g__law_are_answers : mg "_law_are_answers" = some (.ref (He.ga K "_law_are_answers"))
  d__law_great : ∃ fd, FnP K "_law_great" "_law_great" s__law_great (He.ga K "_law_great") fd
  g__law_great : mg "_law_great" = some (.ref (He.ga K "_law_great"))
  d__law_deed : ∃ fd, FnP K "_law_deed" "_law_deed" s__law_deed (He.ga K "_law_deed") fd
  g__law_deed : mg "_law_deed" = some (.ref (He.ga K "_law_deed"))
  d__law_ask : ∃ fd, FnP K "_law_ask" "_law_ask" s__law_ask (He.ga K "_law_ask") fd
  g__law_ask : mg "_law_ask" = some (.ref (He.ga K "_law_ask"))
  d_law : ∃ fd, FnP K "law" "law" s_law (He.ga K "law") fd
  g_law : mg "law" = some (.ref (He.ga K "law"))
/-! ### a def's promise, bundled -/
section
variable {P : Program} {w : World} {K : PySem.W.Frag} {mg : Str → Option Value} {base : Heap} {x qual g : Str} {st : Stmt} {f C : Addr} {N ps : List Str} {k : Nat} {sp : Sp}
abbrev BodyOk (P : Program) (w : World) (K : PySem.W.Frag) (mg : Str → Option Value) (base : Heap) (qual : Str) (st : Stmt) (f : Addr) (N : List Str) (k : Nat) (sp : Sp) : Prop :=
  ∀ (cdv : Value) (A : Around) (outer : List Env) (s : Shared) (H : Hp) (vs : List V) (Q : VK) (E : XK), Room k (A.deeper (envOfC qual (defScope st) s.heap.objs.size f cdv)) → sp vs H Q E →
    ∃ t, PSs (cxOf CX0 P w K mg base N qual (defScope st) f cdv A outer s H E).nox (defBody st) t ∧ t { nx := fun _ H' => Q .non H', rt := Q } (start N vs) H
theorem fn_ok {fd : FuncData} (F : FnP K x qual st f fd) (S : FnScope N ps (defScope st)) (len : ∀ vs H Q E, sp vs H Q E → vs.length = ps.length) (b : BodyOk P w K mg base qual st f N k sp) : FnOk P w K mg base CX0 (k + 1) f fd ps sp :=
  FunD.ok F S len fun cdv A outer s H vs Q E hr h => let ⟨t, a, q⟩ := b cdv A outer s H vs Q E hr h; ⟨t, PSs.nox a, q⟩
abbrev BindOk (x qual : Str) (st : Stmt) (ps : List Str) : Prop := ∀ (kV doc pm : Value) (an : Option Addr) (cdv ct : Value) (us : List Value), us.length = ps.length → bindArgs (PySem.W.fnOf x qual (defArgs st) (defBody st) (defScope st) .none kV doc pm an cdv ct) ⟨us, []⟩ = pure (ps.zip us)
theorem cal_of (F : ∃ fd, FnP K x qual st f fd) (hg : mg g = some (.ref f)) (S : FnScope N ps (defScope st)) (hb : BindOk x qual st ps) (len : ∀ vs H Q E, sp vs H Q E → vs.length = ps.length) (b : BodyOk P w K mg base qual st f N k sp) : Cal P w K mg base (k + 1) g ps sp :=
  let ⟨fd, F⟩ := F
  ⟨f, fd, fn_ok F S len b, hg, F.kp, FunD.bindsN F hb⟩
theorem mcal_of (F : ∃ fd, FnP K x qual st f fd) (hC : Cls K C) (hm : Meth K C x f) (S : FnScope N ps (defScope st)) (hb : BindOk x qual st ps) (len : ∀ vs H Q E, sp vs H Q E → vs.length = ps.length) (b : BodyOk P w K mg base qual st f N k sp) : MCal P w K mg base (k + 1) C x ps sp :=
  let ⟨fd, F⟩ := F
  ⟨f, fd, fn_ok F S len b, hC, hm, FunD.bindsN F hb⟩
theorem kcal_of (F : ∃ fd, FnP K x qual st f fd) (hg : mg g = some (.ref C)) (hm : Mk K C f) (S : FnScope N ps (defScope st)) (hb : BindOk x qual st ps) (len : ∀ vs H Q E, sp vs H Q E → vs.length = ps.length) (b : BodyOk P w K mg base qual st f N k sp) : KCal P w K mg base (k + 1) C g ps sp :=
  let ⟨fd, F⟩ := F
  ⟨f, fd, fn_ok F S len b, hg, hm, FunD.bindsN F hb⟩
end
end Fs

set_option maxHeartbeats 4000000
/-! Rules whose readings name the written part by its own letter (a comprehension's block wants them so). -/
namespace Fs
open PySem PySem.Spec PyProof.Rows L2
section
variable {X : Cx} {K : PySem.W.Frag}
theorem ixL (h : X.K = K := by rfl) : IxR X (rIxL K) := h ▸ ix_list
theorem ixT (h : X.K = K := by rfl) : IxR X (rIxT K) := h ▸ ix_tup
theorem slL (h : X.K = K := by rfl) : SlR X (rSlL K) := h ▸ sl_list
theorem slT (h : X.K = K := by rfl) : SlR X (rSlT K) := h ▸ sl_tup
theorem getL (h : X.K = K := by rfl) : PGet X (rIxL K) := h ▸ get_list
theorem ltT (hu : X.A.units < cLine) (h : X.K = K := by rfl) : OpR X (compareOp .Lt) (rLtT K) := h ▸ op_ltT hu
theorem inSeq (h : X.K = K := by rfl) : OpR X (compareOp .In) (rIn K false) := h ▸ op_in_seq
theorem eqDK (hu : X.A.units + 64 < cLine) (h : X.K = K := by rfl) : OpR X (compareOp .Eq) (rEqD K) := h ▸ op_eqD hu
theorem eqNilK (hu : X.A.units + 64 < cLine) (h : X.K = K := by rfl) : OpR X (compareOp .Eq) (rEqNil K false) := h ▸ op_eqNil hu
theorem neNilK (hu : X.A.units + 64 < cLine) (h : X.K = K := by rfl) : OpR X (compareOp .NotEq) (rEqNil K true) := h ▸ op_neNil hu
theorem inDK (hu : X.A.units + 64 < cLine) (h : X.K = K := by rfl) : OpR X (compareOp .In) (rInD K) := h ▸ op_inD hu
def rLenQ (K : PySem.W.Frag) : List V → Hp → VK → Prop := fun xs H Q => ∃ p ys, xs = [.ref p] ∧ (SqL K H p ys ∨ SqT K H p ys) ∧ Q (.int ys.length) H
theorem lenK (h : X.K = K := by rfl) : CallR X (.builtin "len") (rLenQ K) := h ▸ call_len_seq
def rTupTup (K : PySem.W.Frag) : List V → Hp → VK → Prop := fun xs H Q => ∃ a ys, xs = [.ref a] ∧ SqT K H a ys ∧ Q (.ref a) H
theorem tupT (h : X.K = K := by rfl) : CallR X (.type "tuple") (rTupTup K) := h ▸ call_tupleT
def rListOf (K : PySem.W.Frag) : List V → Hp → VK → Prop := fun xs H Q => ∃ p ys, xs = [.ref p] ∧ (SqL K H p ys ∨ SqT K H p ys) ∧ ∀ l, H l = none → Q (.ref l) (upd H l (.lst ys))
theorem listOf (h : X.K = K := by rfl) : CallR X (.type "list") (rListOf K) := h ▸ call_list_of
def rTupL (K : PySem.W.Frag) : List V → Hp → VK → Prop := fun xs H Q => ∃ p ys, xs = [.ref p] ∧ SqL K H p ys ∧ ∀ l, H l = none → Q (.ref l) (upd H l (.tup ys))
theorem tupL (h : X.K = K := by rfl) : CallR X (.type "tuple") (rTupL K) := fun pins s σ H xs us Q I r q => call_tuple_of pins s σ H xs us Q I r (by obtain ⟨p, ys, e, a, b⟩ := q; exact ⟨p, ys, e, .inl ⟨h ▸ a, b⟩⟩)
theorem isiK (h : X.K = K := by rfl) : CallR X (.builtin "isinstance") (rIsi K) := h ▸ call_isi
theorem isiTK (h : X.K = K := by rfl) : CallR X (.builtin "isinstance") (rIsiT K) := h ▸ call_isiT
theorem sumK (hc : X.calm = true) (h : X.K = K := by rfl) : CallR X (.builtin "sum") (rSum K) := h ▸ cr_sum hc
theorem allK (hc : X.calm = true) (h : X.K = K := by rfl) : CallR X (.builtin "all") (rAll K) := h ▸ cr_all hc
theorem maxK (hc : X.calm = true) (h : X.K = K := by rfl) : CallR X (.builtin "max") (rMax K) := h ▸ cr_max hc
theorem sortDK (hu : X.A.units + 64 < cLine) (h : X.K = K := by rfl) : CallR X (.builtin "sorted") (rSortD K) := h ▸ cr_sortD hu
theorem sortSetK {w : World} (hc : X.calm = true) (hw : X.w = w := by rfl) : CallR X (.builtin "sorted") (rSortedSet w) := hw ▸ cr_sortedSet hc
theorem setIK {w : World} (hc : X.calm = true) (h : X.K = K := by rfl) (hw : X.w = w := by rfl) : CallR X (.type "set") (rSetI K w) := h ▸ hw ▸ cr_setI hc
theorem lenSetK {w : World} (hw : X.w = w := by rfl) : CallR X (.builtin "len") (rLenSet w) := hw ▸ cr_lenSet
theorem indexK (h : X.K = K := by rfl) : MtR X "list.index" (rIndex K) := h ▸ mt_index
theorem piL {tg l : Expr} {tl : TE} (hl : PE X l tl) (h : X.K = K := by rfl) : PI X tg l (iList K tl) := h ▸ pi_list hl
theorem piT {tg l : Expr} {tl : TE} (hl : PE X l tl) (h : X.K = K := by rfl) : PI X tg l (iTup K tl) := h ▸ pi_tup hl
theorem revLK {e : Expr} {te : TE} {k : Nat} {p1 p2 p3 pos : Pos} (he : PE X e te) (h : X.K = K := by rfl) : PE X (.Subscript e (.Slice none none (some (.UnaryOp .USub (.Constant (.int 1) k p1) p2)) p3) pos) (tRevL K te) := h ▸ pe_revL he
theorem fldK {e : Expr} {f : Str} {ta : TE} {pos : Pos} (he : PE X e ta) (hb : attributeBase e f X.env (eval e X.env) = eval e X.env) (h : X.K = K := by rfl) : PE X (.Attribute e f pos) (tFld K ta f) := h ▸ pe_fld he hb
def rJoin (K : PySem.W.Frag) : V → List V → Hp → VK → Prop := fun x xs H Q => ∃ a p, ∃ ys : List Str, x = .str a ∧ xs = [.ref p] ∧ SqL K H p (ys.map V.str) ∧ (ys.map (·.length)).sum + ys.length * a.length ≤ 16777216 ∧ Q (.str (Txt.join a ys)) H
section
variable {o e : Expr} {es : List Expr} {to te : TE} {t : TA} {name : Str} {apos cpos : Pos} {T id : String} {r : V → List V → Hp → VK → Prop}
theorem bm0K (pa : PlainAttrs T) (slot : Slot T name id) (hty : typeOf (.builtin id) = pure (.type "method_descriptor")) (hm : MtR X id r) (ho : PE X o to) (h : X.K = K := by rfl)
    (hbase : attributeBase o name X.env (eval o X.env) = eval o X.env := by rfl) (hline : (apos.endLine == cpos.line) = true := by rfl) : PE X (.Call (.Attribute o name apos) [] [] cpos) (tBM0 K T r to) := h ▸ pe_bm0 pa slot hty hm ho hbase hline
theorem bmK (pa : PlainAttrs T) (slot : Slot T name id) (hty : typeOf (.builtin id) = pure (.type "method_descriptor")) (hm : MtR X id r) (ho : PE X o to) (ha : PA X (e :: es) t) (h : X.K = K := by rfl)
    (hbase : attributeBase o name X.env (eval o X.env) = eval o X.env := by rfl)
    (hfew : ((backTo cpos (starEach (e :: es) X.env)).all (fun x => !x.1) && (backToKw cpos (keywordEach [] X.env)).all (fun x => x.1.isSome)
      && decide ((e :: es).length + ([] : List Keyword).length + (if ([] : List Keyword).isEmpty then 0 else 1) < 30)) = true := by rfl)
    (hline : (apos.endLine == cpos.line) = true := by rfl) (hs : starEach (e :: es) X.env = (false, eval e X.env) :: starEach es X.env := by rfl) (hplain : (backTo cpos (starEach es X.env)).any (·.1) = false := by rfl) :
    PE X (.Call (.Attribute o name apos) (e :: es) [] cpos) (tBM K T r to t) := h ▸ pe_bm pa slot hty hm ho ha hbase hfew hline hs hplain
theorem joinK (ho : PE X o to) (he : PE X e te) (h : X.K = K := by rfl) (hs : starEach [e] X.env = [(false, eval e X.env)] := by rfl) (hbase : attributeBase o "join" X.env (eval o X.env) = eval o X.env := by rfl) (hline : (apos.endLine == cpos.line) = true := by rfl) :
    PE X (.Call (.Attribute o "join" apos) [e] [] cpos) (tM1 (rJoin K) to te) :=
  pe_m1 PySem.F.slot_str_join PySem.F.type_str_join (fun pins s σ H x xs v us Q I rx rs q => mt_join pins s σ H x xs v us Q I rx rs (by obtain ⟨a, p, ys, e1, e2, e3, e4⟩ := q; exact ⟨a, p, ys, e1, e2, .inl (h ▸ e3), e4⟩)) ho he hs hbase hline
end
end
end Fs

set_option maxHeartbeats 4000000
/-! The setting of all the promises; small tools. -/
namespace Fs
open PySem PySem.Spec PyProof.Rows L2
abbrev pT : Str × Option Str := ("told_order", none)
abbrev pR : Str × Option Str := ("Pour", some "rising")
abbrev tl (K : PySem.W.Frag) : TL := [((He.cT K pT).2, "told_order.<locals>.<lambda>"), ((He.cT K pR).2, "Pour.rising.<locals>.<lambda>")]
structure Ctx (K : PySem.W.Frag) (mg : Str → Option Value) (base : Heap) (T : TL) : Prop extends Top K mg where
  hT : T = tl K
  tabT : LamX.TabB base mg (He.cT K pT).1 (He.cT K pT).2
  tabR : LamX.TabB base mg (He.cT K pR).1 (He.cT K pR).2
  two : (He.cT K pT).2 ≠ (He.cT K pR).2
/-! ### numbers that are not negative, as values -/
abbrev nv (n : Nat) : V := .int (n : Int)
abbrev NL (K : PySem.W.Frag) (H : Hp) (a : Addr) (ns : List Nat) : Prop := SqL K H a (ns.map nv)
abbrev SL (K : PySem.W.Frag) (H : Hp) (a : Addr) (ns : List Str) : Prop := SqL K H a (ns.map V.str)
/-- a row: a tuple of such numbers -/
def RowN (K : PySem.W.Frag) (H : Hp) (v : V) (r : List Nat) : Prop := ∃ t, v = .ref t ∧ SqT K H t (r.map nv)
/-- v by v -/
def Each {α : Type} (R : V → α → Prop) (vs : List V) (xs : List α) : Prop := vs.length = xs.length ∧ ∀ (i : Nat) (v : V) (x : α), vs[i]? = some v → xs[i]? = some x → R v x
section
variable {α : Type} {R R' : V → α → Prop} {vs ws : List V} {xs ys : List α} {v : V} {x : α} {i : Nat}
theorem Each.nil : Each R [] ([] : List α) := ⟨rfl, fun i v x h => by cases h⟩
theorem Each.mono (h : Each R vs xs) (f : ∀ v x, R v x → R' v x) : Each R' vs xs := ⟨h.1, fun i v x a b => f _ _ (h.2 i v x a b)⟩
theorem Each.app (h : Each R vs xs) (g : Each R ws ys) : Each R (vs ++ ws) (xs ++ ys) := by
  refine ⟨by rw [List.length_append, List.length_append, h.1, g.1], fun i v x a b => ?_⟩
  by_cases hi : i < vs.length
  · rw [List.getElem?_append_left hi] at a
    rw [List.getElem?_append_left (by rw [← h.1]; exact hi)] at b
    exact h.2 i v x a b
  · rw [List.getElem?_append_right (by omega)] at a
    rw [List.getElem?_append_right (by rw [← h.1]; omega), ← h.1] at b
    exact g.2 _ v x a b
theorem Each.one (h : R v x) : Each R [v] [x] := ⟨rfl, fun i v x a b => by
  cases i with
  | zero => cases a; cases b; exact h
  | succ i => cases a⟩
theorem Each.snoc (h : Each R vs xs) (g : R v x) : Each R (vs ++ [v]) (xs ++ [x]) := h.app (Each.one g)
theorem Each.cons (g : R v x) (h : Each R vs xs) : Each R (v :: vs) (x :: xs) := (Each.one g).app h
theorem Each.at_v (h : Each R vs xs) (a : vs[i]? = some v) : ∃ x, xs[i]? = some x ∧ R v x := by
  obtain ⟨hi, _⟩ := List.getElem?_eq_some_iff.mp a
  have hj : i < xs.length := h.1 ▸ hi
  have e : xs[i]? = some xs[i] := List.getElem?_eq_getElem hj
  exact ⟨_, e, h.2 i v _ a e⟩
theorem Each.at_x (h : Each R vs xs) (b : xs[i]? = some x) : ∃ v, vs[i]? = some v ∧ R v x := by
  obtain ⟨hi, _⟩ := List.getElem?_eq_some_iff.mp b
  have hj : i < vs.length := h.1 ▸ hi
  have e : vs[i]? = some vs[i] := List.getElem?_eq_getElem hj
  exact ⟨_, e, h.2 i _ x e b⟩
theorem Each.take (h : Each R vs xs) (n : Nat) : Each R (vs.take n) (xs.take n) := ⟨by rw [List.length_take, List.length_take, h.1], fun i v x a b => by
  rw [List.getElem?_take] at a b
  split at a
  · rename_i hi
    rw [if_pos hi] at b
    exact h.2 i v x a b
  · cases a⟩
theorem Each.drop (h : Each R vs xs) (n : Nat) : Each R (vs.drop n) (xs.drop n) := ⟨by rw [List.length_drop, List.length_drop, h.1], fun i v x a b => by
  rw [List.getElem?_drop] at a b
  exact h.2 _ v x a b⟩
theorem Each.map {β : Type} {f : β → V} {xs : List β} : Each (fun v x => v = f x) (xs.map f) xs := ⟨by rw [List.length_map], fun i v x a b => by
  rw [List.getElem?_map, b] at a
  exact (Option.some.inj a).symm⟩
end
theorem RowN.up {K : PySem.W.Frag} {G G' : Hp} (s : Same G G') {v : V} {r : List Nat} (h : RowN K G v r) : RowN K G' v r := by
  obtain ⟨t, e, h⟩ := h
  exact ⟨t, e, Same.tup s h⟩
abbrev Rows (K : PySem.W.Frag) (G : Hp) (vs : List V) (rows : List (List Nat)) : Prop := Each (RowN K G) vs rows
theorem Rows.up {K : PySem.W.Frag} {G G' : Hp} (s : Same G G') {vs : List V} {rows : List (List Nat)} (h : Rows K G vs rows) : Rows K G' vs rows := h.mono fun _ _ => RowN.up s
/-! ### lists of values -/
theorem map_at {α : Type} {f : α → V} {xs : List α} {i : Nat} {x : V} (hx : (xs.map f)[i]? = some x) : ∃ n, xs[i]? = some n ∧ x = f n := by
  rw [List.getElem?_map] at hx
  cases h : xs[i]? with
  | none => rw [h] at hx; cases hx
  | some n => rw [h] at hx; exact ⟨n, rfl, (Option.some.inj hx).symm⟩
theorem map_set' {α : Type} (f : α → V) (xs : List α) (i : Nat) (x : α) : (xs.map f).set i (f x) = (xs.set i x).map f := (List.map_set ..).symm
theorem map_snoc {α : Type} (f : α → V) (xs : List α) (x : α) : xs.map f ++ [f x] = (xs ++ [x]).map f := by simp
theorem take_snoc {α : Type} {xs : List α} {i : Nat} {x : α} (h : xs[i]? = some x) : xs.take (i + 1) = xs.take i ++ [x] := by rw [List.take_add_one, h]; rfl
theorem atI_map {α : Type} {f : α → V} {ns : List α} {n : Nat} {m : α} (h : ns[n]? = some m) : atI (ns.map f) (n : Int) = some (f m) := by
  refine atI_nat ?_
  rw [List.getElem?_map, h]
  rfl
theorem atI_v {vs : List V} {n : Nat} {m : V} (h : vs[n]? = some m) : atI vs (n : Int) = some m := atI_nat h
theorem ixN_n {n j : Nat} (hj : j < n) : ixN n (j : Int) = some j := by
  unfold ixN
  rw [if_pos (by omega), if_pos (by omega)]
  simp
theorem sz {n : Nat} (h : n ≤ 100000) : n ≤ sizeLine := Nat.le_trans h (by rw [sizeLine_eq]; decide)
theorem sz' {n : Nat} (h : n < 100000) : n < sizeLine := Nat.lt_of_lt_of_le h (by rw [sizeLine_eq]; decide)
theorem szm {n : Nat} {α : Type} {f : α → V} {xs : List α} (h : xs.length ≤ n) (hn : n < 100000) : (xs.map f).length < sizeLine := sz' (by rw [List.length_map]; omega)
end Fs

set_option maxHeartbeats 4000000
/-! Comprehensions over owned heaps. -/
namespace Fs
open PySem PySem.Spec PyProof.Rows L2
theorem walk_r0 {n : Nat} : Walk (Itr 0 n) n (fun _ => True) (YFn nv) := walk_range.mono (fun _ h => h) (fun i H x H' _ _ ⟨a, b⟩ => ⟨a, by rw [b]; show V.int (0 + (i : Int)) = V.int i; rw [Int.zero_add]⟩)
section
variable {K : PySem.W.Frag} {T : TL} {G H : Hp} {l : List (Addr × HO)} {D : Addr} {J : It} {n : Nat} {Gd : Hp → Prop} {Y : Nat → Hp → V → Hp → Prop} {g : TG} {te : TE} {vs : List Nat} {σ : L2.St} {Qd : Hp → Prop} {β : Type}
/-- each item makes something that R tells; G may grow -/
theorem lc_own (w : Walk J n Gd Y) (O : Own T G H l) (n0 : H D = none) (ys : List β) (hn : ys.length = n) (hz : n < 100000) (R : Hp → V → β → Prop) (Rup : ∀ G G' v y, Same G G' → R G v y → R G' v y) (hG : ∀ H', Same G H' → Gd H')
    (hs : ∀ i x y G1 H1 H2 acc (Qc : V → Hp → Prop), i < n → ys[i]? = some y → Same G G1 → Own T G1 H1 ((D, .lst acc) :: l) → Y i H1 x H2 → (∀ v G3 H3, Same G1 G3 → Own T G3 H3 ((D, .lst acc) :: l) → R G3 v y → Qc v H3) →
      g x (wipe σ vs) H2 fun σ2 H3 => wipe σ2 vs = wipe σ vs ∧ te σ2 H3 Qc)
    (hd : ∀ G' H' us, Same G G' → Own T G' H' ((D, .lst us) :: l) → Each (R G') us ys → Qd H') :
    ∃ W : Nat → Nat → Hp → Prop, (∃ m, W 0 m (upd H D (.lst []))) ∧ ∀ i m H, W i m H →
      (J.stop i H ∧ Qd H) ∨ (J.go i H ∧ ∃ Nx : Hp → Prop, (∀ H', Nx H' → ∃ m', m' < m ∧ W (i + 1) m' H') ∧ ∀ x H', J.yld i H x H' → g x (wipe σ vs) H' fun σ2 H2 => wipe σ2 vs = wipe σ vs ∧ tYes σ2 H2 fun b H3 =>
        if b = true then te σ2 H3 fun y H4 => ∃ acc, H4 D = some (.lst acc) ∧ acc.length < sizeLine ∧ Nx (upd H4 D (.lst (acc ++ [y]))) else Nx H3) := by
  refine lc_it w (fun i H' => ∃ G1 us, Same G G1 ∧ Own T G1 H' ((D, .lst us) :: l) ∧ Each (R G1) us (ys.take i)) ⟨G, [], Same.refl G, own_new O n0, Each.nil⟩ (fun i H' _ ⟨G1, us, s, O1, _⟩ => hG H' (s.trans O1.sub)) (fun i x H1 H2 hi ⟨G1, us, s, O1, e⟩ y => ?_) (fun H' ⟨G1, us, s, O1, e⟩ => hd G1 H' us s O1 (by rw [← hn, List.take_length] at e; exact e))
  have hj : i < ys.length := hn ▸ hi
  have ey : ys[i]? = some ys[i] := List.getElem?_eq_getElem hj
  have hl : us.length = i := by rw [e.1, List.length_take]; omega
  refine hs i x ys[i] G1 H1 H2 us _ hi ey s O1 y fun v G3 H3 s3 O3 r => ⟨us, O3.l0, sz' (by omega), G3, us ++ [v], s.trans s3, own_set O3 0 rfl, ?_⟩
  rw [take_snoc ey]
  exact (e.mono fun _ _ => Rup _ _ _ _ s3).snoc r
/-- each item is a value; no more objects -/
theorem lc_val (w : Walk J n Gd Y) (O : Own T G H l) (n0 : H D = none) (ys : List β) (hn : ys.length = n) (hz : n < 100000) (f : β → V) (hG : ∀ H', Same G H' → Gd H')
    (hs : ∀ i x y H1 H2 acc (Qc : V → Hp → Prop), i < n → ys[i]? = some y → Own T G H1 ((D, .lst acc) :: l) → Y i H1 x H2 → (∀ H3, Own T G H3 ((D, .lst acc) :: l) → Qc (f y) H3) →
      g x (wipe σ vs) H2 fun σ2 H3 => wipe σ2 vs = wipe σ vs ∧ te σ2 H3 Qc)
    (hd : ∀ H', Own T G H' ((D, .lst (ys.map f)) :: l) → Qd H') :
    ∃ W : Nat → Nat → Hp → Prop, (∃ m, W 0 m (upd H D (.lst []))) ∧ ∀ i m H, W i m H →
      (J.stop i H ∧ Qd H) ∨ (J.go i H ∧ ∃ Nx : Hp → Prop, (∀ H', Nx H' → ∃ m', m' < m ∧ W (i + 1) m' H') ∧ ∀ x H', J.yld i H x H' → g x (wipe σ vs) H' fun σ2 H2 => wipe σ2 vs = wipe σ vs ∧ tYes σ2 H2 fun b H3 =>
        if b = true then te σ2 H3 fun y H4 => ∃ acc, H4 D = some (.lst acc) ∧ acc.length < sizeLine ∧ Nx (upd H4 D (.lst (acc ++ [y]))) else Nx H3) := by
  refine lc_it w (fun i H' => Own T G H' ((D, .lst ((ys.take i).map f)) :: l)) (own_new O n0) (fun i H' _ O1 => hG H' O1.sub) (fun i x H1 H2 hi O1 y => ?_) (fun H' O1 => hd H' (by rw [← hn, List.take_length] at O1; exact O1))
  have hj : i < ys.length := hn ▸ hi
  have ey : ys[i]? = some ys[i] := List.getElem?_eq_getElem hj
  refine hs i x ys[i] H1 H2 _ _ hi ey O1 y fun H3 O3 => ⟨_, O3.l0, szm (n := n) (by rw [List.length_take]; omega) hz, ?_⟩
  rw [map_snoc, ← take_snoc ey]
  exact own_set O3 0 rfl
/-- each item makes something that R tells; G may grow -/
theorem lc_ownS (σ' : L2.St) (hσ : wipe σ vs = σ') (w : Walk J n Gd Y) (O : Own T G H l) (n0 : H D = none) (ys : List β) (hn : ys.length = n) (hz : n < 100000) (R : Hp → V → β → Prop) (Rup : ∀ G G' v y, Same G G' → R G v y → R G' v y) (hG : ∀ H', Same G H' → Gd H')
    (hs : ∀ i x y G1 H1 H2 acc (Qc : V → Hp → Prop), i < n → ys[i]? = some y → Same G G1 → Own T G1 H1 ((D, .lst acc) :: l) → Y i H1 x H2 → (∀ v G3 H3, Same G1 G3 → Own T G3 H3 ((D, .lst acc) :: l) → R G3 v y → Qc v H3) →
      g x σ' H2 fun σ2 H3 => wipe σ2 vs = σ' ∧ te σ2 H3 Qc)
    (hd : ∀ G' H' us, Same G G' → Own T G' H' ((D, .lst us) :: l) → Each (R G') us ys → Qd H') :
    ∃ W : Nat → Nat → Hp → Prop, (∃ m, W 0 m (upd H D (.lst []))) ∧ ∀ i m H, W i m H →
      (J.stop i H ∧ Qd H) ∨ (J.go i H ∧ ∃ Nx : Hp → Prop, (∀ H', Nx H' → ∃ m', m' < m ∧ W (i + 1) m' H') ∧ ∀ x H', J.yld i H x H' → g x (wipe σ vs) H' fun σ2 H2 => wipe σ2 vs = wipe σ vs ∧ tYes σ2 H2 fun b H3 =>
        if b = true then te σ2 H3 fun y H4 => ∃ acc, H4 D = some (.lst acc) ∧ acc.length < sizeLine ∧ Nx (upd H4 D (.lst (acc ++ [y]))) else Nx H3) := by
  subst hσ
  exact lc_own w O n0 ys hn hz R Rup hG hs hd
/-- each item is a value; no more objects -/
theorem lc_valS (σ' : L2.St) (hσ : wipe σ vs = σ') (w : Walk J n Gd Y) (O : Own T G H l) (n0 : H D = none) (ys : List β) (hn : ys.length = n) (hz : n < 100000) (f : β → V) (hG : ∀ H', Same G H' → Gd H')
    (hs : ∀ i x y H1 H2 acc (Qc : V → Hp → Prop), i < n → ys[i]? = some y → Own T G H1 ((D, .lst acc) :: l) → Y i H1 x H2 → (∀ H3, Own T G H3 ((D, .lst acc) :: l) → Qc (f y) H3) →
      g x σ' H2 fun σ2 H3 => wipe σ2 vs = σ' ∧ te σ2 H3 Qc)
    (hd : ∀ H', Own T G H' ((D, .lst (ys.map f)) :: l) → Qd H') :
    ∃ W : Nat → Nat → Hp → Prop, (∃ m, W 0 m (upd H D (.lst []))) ∧ ∀ i m H, W i m H →
      (J.stop i H ∧ Qd H) ∨ (J.go i H ∧ ∃ Nx : Hp → Prop, (∀ H', Nx H' → ∃ m', m' < m ∧ W (i + 1) m' H') ∧ ∀ x H', J.yld i H x H' → g x (wipe σ vs) H' fun σ2 H2 => wipe σ2 vs = wipe σ vs ∧ tYes σ2 H2 fun b H3 =>
        if b = true then te σ2 H3 fun y H4 => ∃ acc, H4 D = some (.lst acc) ∧ acc.length < sizeLine ∧ Nx (upd H4 D (.lst (acc ++ [y]))) else Nx H3) := by
  subst hσ
  exact lc_val w O n0 ys hn hz f hG hs hd
end
end Fs

set_option maxHeartbeats 4000000
/-! counts, begins, figures of a number, the least common bottom. -/
namespace Fs
open PySem PySem.Spec PyProof.Rows L2
def cnt (ns : List Nat) (b : Nat) : List Nat := (List.range b).map fun j => ns.count j
theorem cnt_len (ns : List Nat) (b : Nat) : (cnt ns b).length = b := by simp [cnt]
theorem cnt_nil (b : Nat) : cnt [] b = List.replicate b 0 := by
  apply List.ext_getElem <;> simp [cnt]
theorem cnt_step (ns : List Nat) (b n : Nat) (h : n < b) : (cnt ns b)[n]? = some (ns.count n) ∧ (cnt ns b).set n (ns.count n + 1) = cnt (ns ++ [n]) b := by
  refine ⟨by simp [cnt, h], ?_⟩
  apply List.ext_getElem
  · simp [cnt]
  · intro j h1 h2
    simp only [cnt, List.getElem_set, List.getElem_map, List.getElem_range, List.count_append]
    by_cases e : n = j
    · subst e; simp
    · rw [if_neg e, List.count_singleton]
      simp [e]
/-- the sums ahead of each -/
def begs (ns : List Nat) : List Nat := (List.range ns.length).map fun i => (ns.take i).sum
theorem begs_step (ns : List Nat) (n : Nat) : begs (ns ++ [n]) = begs ns ++ [ns.sum] := by
  unfold begs
  rw [List.length_append, List.length_singleton, List.range_succ, List.map_append]
  congr 1
  · apply List.map_congr_left
    intro i hi
    rw [List.take_append_of_le_length (Nat.le_of_lt (List.mem_range.mp hi))]
  · simp
theorem begs_len (ns : List Nat) : (begs ns).length = ns.length := by simp [begs]
/-- the figures of n, many of them, the greatest first -/
def dig (b n : Nat) : Nat → List Nat
  | 0 => []
  | m + 1 => (n / b ^ m % b) :: dig b n m
theorem dig_len (b n : Nat) : ∀ m, (dig b n m).length = m
  | 0 => rfl
  | m + 1 => congrArg (· + 1) (dig_len b n m)
theorem dig_rev (b n : Nat) : ∀ m, ((List.range m).map fun k => n / b ^ k % b).reverse = dig b n m
  | 0 => rfl
  | m + 1 => by
    rw [List.range_succ, List.map_append, List.reverse_append, dig_rev b n m]
    rfl
section
variable {P : Program} {w : World} {K : PySem.W.Frag} {mg : Str → Option Value} {base : Heap} {T : TL}
def sp_counts (K : PySem.W.Frag) (T : TL) : Sp := fun vs H Q _ => ∃ (G : Hp) (l : List (Addr × HO)) (a : Addr) (ns : List Nat) (b : Nat), vs = [.ref a, nv b] ∧ Own T G H l ∧ NL K G a ns ∧ b ≤ 1000 ∧ (∀ n ∈ ns, n < b) ∧ ∀ H' p, Own T G H' ((p, .lst ((cnt ns b).map nv)) :: l) → Q (.ref p) H'
theorem sc_counts : FnScope ["row", "base", "found", "figure"] ["row", "base"] (defScope s_counts) := ⟨rfl, rfl, rfl, by decide +kernel, rfl, by decide +kernel, by decide +kernel⟩
theorem cal_counts (t : Ctx K mg base T) : Cal P w K mg base 1 "counts" ["row", "base"] (sp_counts K T) := by
  refine cal_of t.d_counts t.g_counts sc_counts (fun _ _ _ _ _ _ us hl => match us, hl with | [_, _], _ => rfl) (fun vs H Q E h => ?_) (fun cdv A outer s H vs Q E hr h => ?_)
  · obtain ⟨G, l, a, ns, b, rfl, _⟩ := h
    rfl
  · obtain ⟨G, l, a, ns, b, rfl, O, ha, hb, hn, q⟩ := h
    refine ⟨_, (pss_cons (ps_set (i := 2) sc_counts.nd rfl (.inl rfl) (pe_op op_rep (pe_lst (pa_cons pe_int pa_nil)) (pv 1)))
      (pss_cons (ps_for PassesOwn.never rfl (piL (pv 0)) (pg_name (i := 3) sc_counts.nd rfl (.inl rfl))
        (pss_one (ps_augS (pv 2) (pv 3) getL pe_int ip_add set_list)))
      (pss_one (ps_ret (pv 2))))), ?_⟩
    refine ⟨by decide, fun p0 n0 => ⟨nv b, rfl, _, _, _, rfl, rfl, upd_same, by omega, by omega, ?_, fun p n1 => ?_⟩⟩
    · show 1 * b ≤ sizeLine
      exact sz (by omega)
    rw [show (List.replicate (b : Int).toNat [V.int 0]).flatten = (cnt [] b).map nv by rw [cnt_nil]; simp]
    have O1 := own_new (o := .lst ((cnt [] b).map nv)) (own_new (o := .lst [V.int 0]) O n0).drop n1
    refine ⟨.ref a, rfl, a, rfl, ⟨_, O1.seq ha⟩, for_list (K := K) (a := a) (xs := ns.map nv) (fun i σ H' => ∃ y, σ = [some (.ref a), some (nv b), some (.ref p), y] ∧ Own T G H' ((p, .lst ((cnt (ns.take i) b).map nv)) :: l))
      ⟨none, rfl, O1⟩ (fun i σ H' _ ⟨_, _, O2⟩ => O2.seq ha) (fun i x σ H' hx ⟨y, e, O2⟩ => ?_) (fun σ H' ⟨y, e, O2⟩ => ?_)⟩
    · subst e
      obtain ⟨n, e1, rfl⟩ := map_at hx
      have hb := hn n (List.mem_of_getElem? e1)
      have hc := cnt_step (ns.take i) b n hb
      refine ⟨.ref p, rfl, nv n, rfl, _, _, _, _, rfl, rfl, .inl (.inl O2.l0), atI_map hc.1, _, _, rfl, rfl, _, _, _, n, rfl, rfl, O2.l0, ?_, ?_⟩
      · rw [List.length_map, cnt_len]
        exact ixN_n hb
      · rw [show V.int ((ns.take i).count n + 1) = nv ((ns.take i).count n + 1) from rfl, map_set', hc.2]
        refine ⟨_, rfl, ?_⟩
        rw [take_snoc e1]
        exact own_set O2 0 rfl
    · subst e
      rw [List.length_map, List.take_length] at O2
      exact ⟨_, rfl, q _ _ O2⟩
def sp_begins (K : PySem.W.Frag) (T : TL) : Sp := fun vs H Q _ => ∃ (G : Hp) (l : List (Addr × HO)) (a : Addr) (ns : List Nat), vs = [.ref a] ∧ Own T G H l ∧ NL K G a ns ∧ ns.length ≤ 1000 ∧ ∀ H' p, Own T G H' ((p, .lst ((begs ns).map nv)) :: l) → Q (.ref p) H'
theorem sc_begins : FnScope ["numbers", "found", "ahead", "many"] ["numbers"] (defScope s_begins) := ⟨rfl, rfl, rfl, by decide +kernel, rfl, by decide +kernel, by decide +kernel⟩
theorem cal_begins (t : Ctx K mg base T) : Cal P w K mg base 1 "begins" ["numbers"] (sp_begins K T) := by
  refine cal_of t.d_begins t.g_begins sc_begins (fun _ _ _ _ _ _ us hl => match us, hl with | [_], _ => rfl) (fun vs H Q E h => ?_) (fun cdv A outer s H vs Q E hr h => ?_)
  · obtain ⟨G, l, a, ns, rfl, _⟩ := h
    rfl
  · obtain ⟨G, l, a, ns, rfl, O, ha, hb, q⟩ := h
    refine ⟨_, (pss_cons (ps_set (i := 1) sc_begins.nd rfl (.inl rfl) (pe_lst pa_nil))
      (pss_cons (ps_set (i := 2) sc_begins.nd rfl (.inl rfl) pe_int)
      (pss_cons (ps_for PassesOwn.never rfl (piL (pv 0)) (pg_name (i := 3) sc_begins.nd rfl (.inl rfl))
        (pss_cons (ps_expr (bmK PySem.F.plainAttrs_list PySem.F.slot_list_append PySem.F.type_list_append mt_append (pv 1) (pa_cons (pv 2) pa_nil)))
        (pss_one (ps_aug (i := 2) sc_begins.nd rfl (.inl rfl) (pv 3) ip_add))))
      (pss_one (ps_ret (pv 1)))))), ?_⟩
    refine ⟨by decide, fun p n0 => ?_⟩
    have O1 := own_new (o := .lst ((begs []).map nv)) O n0
    refine ⟨.ref a, rfl, a, rfl, ⟨_, O1.seq ha⟩, for_list (K := K) (a := a) (xs := ns.map nv) (fun i σ H' => ∃ y, σ = [some (.ref a), some (.ref p), some (nv (ns.take i).sum), y] ∧ Own T G H' ((p, .lst ((begs (ns.take i)).map nv)) :: l))
      ⟨none, rfl, O1⟩ (fun i σ H' _ ⟨_, _, O2⟩ => O2.seq ha) (fun i x σ H' hx ⟨y, e, O2⟩ => ?_) (fun σ H' ⟨y, e, O2⟩ => ?_)⟩
    · subst e
      obtain ⟨n, e1, rfl⟩ := map_at hx
      have O3 := own_set (o' := .lst ((begs (ns.take (i + 1))).map nv)) O2 0 rfl
      have e3 : (begs (ns.take i)).map nv ++ [nv (ns.take i).sum] = (begs (ns.take (i + 1))).map nv := by rw [take_snoc e1, begs_step, map_snoc]
      refine ⟨.ref p, rfl, .inl ⟨rfl, _, .inl (.inl O2.l0)⟩, nv (ns.take i).sum, rfl, _, _, _, rfl, rfl, O2.l0, szm (by rw [begs_len, List.length_take]; omega) (by omega : 1000 < 100000), nv (ns.take i).sum, rfl, nv n, rfl, _, _, rfl, rfl, ?_⟩
      refine ⟨some (nv n), ?_, by rw [e3]; exact O3⟩
      rw [take_snoc e1, List.sum_append]
      simp
    · subst e
      rw [List.length_map, List.take_length] at O2
      exact ⟨_, rfl, q _ _ O2⟩
def sp_many_figures (K : PySem.W.Frag) (T : TL) : Sp := fun vs H Q _ => ∃ (n b : Nat), vs = [nv n, nv b] ∧ 2 ≤ b ∧ b ≤ 64 ∧ n < 2 ^ 200 ∧ ∀ m : Nat, n < b ^ m → m ≤ 200 → Q (nv m) H
theorem sc_many_figures : FnScope ["n", "base", "many"] ["n", "base"] (defScope s_many_figures) := ⟨rfl, rfl, rfl, by decide +kernel, rfl, by decide +kernel, by decide +kernel⟩
theorem cal_many_figures (t : Ctx K mg base T) : Cal P w K mg base 1 "many_figures" ["n", "base"] (sp_many_figures K T) := by
  refine cal_of t.d_many_figures t.g_many_figures sc_many_figures (fun _ _ _ _ _ _ us hl => match us, hl with | [_, _], _ => rfl) (fun vs H Q E h => ?_) (fun cdv A outer s H vs Q E hr h => ?_)
  · obtain ⟨n, b, rfl, _⟩ := h
    rfl
  · obtain ⟨n, b, rfl, hb, hb2, hn, q⟩ := h
    refine ⟨_, (pss_cons (ps_set (i := 2) sc_many_figures.nd rfl (.inl rfl) pe_int)
      (pss_cons (ps_while PassesOwn.never (pt_cmpR op_gt (pv 0) pe_int (nomark _))
        (pss_cons (ps_set (i := 0) sc_many_figures.nd rfl (.inl rfl) (pe_op op_fdivN (pv 0) (pv 1)))
        (pss_one (ps_aug (i := 2) sc_many_figures.nd rfl (.inl rfl) pe_int ip_add))))
      (pss_one (ps_ret (pv 2))))), ?_⟩
    refine ⟨fun m σ H' => ∃ k, σ = [some (nv m), some (nv b), some (nv k)] ∧ H' = H ∧ m = n / b ^ k ∧ (k = 0 ∨ b ^ (k - 1) ≤ n), ⟨n, 0, rfl, rfl, by simp, .inl rfl⟩, fun m σ H' ⟨k, e, e2, e3, e4⟩ => ?_⟩
    subst e e2
    refine ⟨nv m, rfl, _, _, rfl, rfl, _, rfl, ite2 (fun h => ?_) (fun h => ?_)⟩
    · have hm : 0 < m := by have := of_decide_eq_true h; omega
      refine ⟨fun σ' H'' => ∃ m', m' < m ∧ ∃ k, σ' = [some (nv m'), some (nv b), some (nv k)] ∧ H'' = H' ∧ m' = n / b ^ k ∧ (k = 0 ∨ b ^ (k - 1) ≤ n), fun _ _ h => h, nv m, rfl, nv b, rfl, _, _, rfl, rfl, ⟨by omega, by show b < _; omega⟩, _, rfl, _, _, rfl, rfl, m / b, Nat.div_lt_self hm (by omega), k + 1, ?_, rfl, ?_, .inr ?_⟩
      · show [some (V.int (Int.fdiv (m : Int) (b : Int))), _, some (V.int ((k : Int) + 1))] = _
        rw [Int.fdiv_eq_ediv_of_nonneg _ (by omega)]
        rfl
      · rw [e3, Nat.div_div_eq_div_mul, Nat.pow_succ]
      · show b ^ k ≤ n
        by_cases h0 : b ^ k ≤ n
        · exact h0
        · rw [Nat.div_eq_of_lt (by omega)] at e3
          omega
    · have hm : m = 0 := by
        by_cases h0 : 0 < m
        · exact absurd (decide_eq_true (by omega : (0 : Int) < (m : Int))) h
        · omega
      refine ⟨_, rfl, q k ?_ ?_⟩
      · by_cases h0 : n < b ^ k
        · exact h0
        · have : 0 < n / b ^ k := Nat.div_pos (by omega) (Nat.pow_pos (by omega))
          omega
      · rcases e4 with e4 | e4
        · omega
        · by_cases hk : k ≤ 200
          · exact hk
          · have h1 : 2 ^ 200 ≤ 2 ^ (k - 1) := Nat.pow_le_pow_right (by omega) (by omega)
            have h2 : 2 ^ (k - 1) ≤ b ^ (k - 1) := Nat.pow_le_pow_left hb _
            omega
def sp_figures (K : PySem.W.Frag) (T : TL) : Sp := fun vs H Q _ => ∃ (G : Hp) (l : List (Addr × HO)) (n b m : Nat), vs = [nv n, nv b, nv m] ∧ Own T G H l ∧ 2 ≤ b ∧ b ≤ 64 ∧ n < b ^ m ∧ m ≤ 200 ∧ ∀ H' p, Own T G H' ((p, .tup ((dig b n m).map nv)) :: l) → Q (.ref p) H'
theorem sc_figures : FnScope ["n", "base", "many", "found", "k"] ["n", "base", "many"] (defScope s_figures) := ⟨rfl, rfl, rfl, by decide +kernel, rfl, by decide +kernel, by decide +kernel⟩
theorem cal_figures (t : Ctx K mg base T) : Cal P w K mg base 1 "figures" ["n", "base", "many"] (sp_figures K T) := by
  refine cal_of t.d_figures t.g_figures sc_figures (fun _ _ _ _ _ _ us hl => match us, hl with | [_, _, _], _ => rfl) (fun vs H Q E h => ?_) (fun cdv A outer s H vs Q E hr h => ?_)
  · obtain ⟨G, l, n, b, m, rfl, _⟩ := h
    rfl
  · obtain ⟨G, l, n, b, m, rfl, O, hb, hb2, hn, hm, q⟩ := h
    refine ⟨_, (pss_cons (ps_set (i := 3) sc_figures.nd rfl (.inl rfl) (pe_lst pa_nil))
      (pss_cons (ps_for PassesOwn.never rfl (pi_range1 rfl t.range (pa_cons (pv 2) pa_nil)) (pg_name (i := 4) sc_figures.nd rfl (.inl rfl))
        (pss_cons (ps_expr (bmK PySem.F.plainAttrs_list PySem.F.slot_list_append PySem.F.type_list_append mt_append (pv 3) (pa_cons (pe_op op_modN (pv 0) (pv 1)) pa_nil)))
        (pss_one (ps_set (i := 0) sc_figures.nd rfl (.inl rfl) (pe_op op_fdivN (pv 0) (pv 1))))))
      (pss_cons (ps_if (pt_cmpR op_gt (pv 0) pe_int (nomark _))
        (pss_one (ps_never))
        pss_nil)
      (pss_one (ps_ret (RT.pe_tupRev rfl (by rfl) t.tuple (by rfl) t.reversed (pv 3))))))), ?_⟩
    refine ⟨by decide, fun p n0 => ?_⟩
    have O1 := own_new (o := .lst (((List.range 0).map fun k => n / b ^ k % b).map nv)) O n0
    refine ⟨nv m, rfl, _, rfl, by omega, by omega, ?_⟩
    refine for_range (lo := 0) (n := m) (fun i σ H' => ∃ y, σ = [some (nv (n / b ^ i)), some (nv b), some (nv m), some (.ref p), y] ∧ Own T G H' ((p, .lst (((List.range i).map fun k => n / b ^ k % b).map nv)) :: l)) ⟨none, by simp; rfl, O1⟩ (fun i σ H' hi ⟨y, e, O2⟩ => ?_) (fun σ H' ⟨y, e, O2⟩ => ?_)
    · subst e
      have O3 := own_set (o' := .lst (((List.range (i + 1)).map fun k => n / b ^ k % b).map nv)) O2 0 rfl
      have e3 : ((List.range i).map fun k => n / b ^ k % b).map nv ++ [nv (n / b ^ i % b)] = ((List.range (i + 1)).map fun k => n / b ^ k % b).map nv := by rw [List.range_succ, List.map_append (f := fun k => n / b ^ k % b), List.map_append]; rfl
      refine ⟨.ref p, rfl, .inl ⟨rfl, _, .inl (.inl O2.l0)⟩, nv (n / b ^ i), rfl, nv b, rfl, _, _, rfl, rfl, by omega, _, _, nv (n / b ^ i % b), rfl, ?_, O2.l0, szm (n := 1000) (by simp; omega) (by omega), nv (n / b ^ i), rfl, nv b, rfl, _, _, rfl, rfl, ⟨by omega, by show b < _; omega⟩, some (nv i), ?_, by rw [e3]; exact O3⟩
      · show [V.int (Int.fmod ((n / b ^ i : Nat) : Int) (b : Int))] = _
        rw [Int.fmod_eq_emod_of_nonneg _ (by omega)]
        rfl
      · show [some (V.int (Int.fdiv ((n / b ^ i : Nat) : Int) (b : Int))), _, _, _, some (V.int (0 + (i : Int)))] = _
        rw [Int.fdiv_eq_ediv_of_nonneg _ (by omega), Int.zero_add, Nat.pow_succ, ← Nat.div_div_eq_div_mul]
        rfl
    · subst e
      refine ⟨nv (n / b ^ m), rfl, _, _, rfl, rfl, _, rfl, ite2 (fun h => ?_) (fun h => ?_)⟩
      · exfalso
        have h1 := of_decide_eq_true h
        rw [Nat.div_eq_of_lt hn] at h1
        omega
      · refine ⟨.ref p, rfl, p, _, rfl, .inl (.inl O2.l0), fun z nz => q _ _ ?_⟩
        rw [← List.map_reverse, dig_rev]
        exact own_new O2.drop nz
def sp_shared_factor (K : PySem.W.Frag) (T : TL) : Sp := fun vs H Q _ => ∃ (a b : Nat), vs = [nv a, nv b] ∧ Q (nv (Nat.gcd a b)) H
theorem sc_shared_factor : FnScope ["one", "other"] ["one", "other"] (defScope s_shared_factor) := ⟨rfl, rfl, rfl, by decide +kernel, rfl, by decide +kernel, by decide +kernel⟩
theorem cal_shared_factor (t : Ctx K mg base T) : Cal P w K mg base 1 "shared_factor" ["one", "other"] (sp_shared_factor K T) := by
  refine cal_of t.d_shared_factor t.g_shared_factor sc_shared_factor (fun _ _ _ _ _ _ us hl => match us, hl with | [_, _], _ => rfl) (fun vs H Q E h => ?_) (fun cdv A outer s H vs Q E hr h => ?_)
  · obtain ⟨a, b, rfl, _⟩ := h
    rfl
  · obtain ⟨a, b, rfl, q⟩ := h
    refine ⟨_, (pss_cons (ps_while PassesOwn.never (pt_cmpR op_gt (pv 1) pe_int (nomark _))
        (pss_one (ps_par (i := 0) (j := 1) (by rfl) sc_shared_factor.nd rfl rfl (by decide) rfl rfl (pa_cons (pv 1) (pa_cons (pe_op op_modN (pv 0) (pv 1)) pa_nil)) (by rfl))))
      (pss_one (ps_ret (pv 0)))), ?_⟩
    refine ⟨fun m σ H' => ∃ c, σ = [some (nv c), some (nv m)] ∧ H' = H ∧ Nat.gcd c m = Nat.gcd a b, ⟨b, a, rfl, rfl, rfl⟩, fun m σ H' ⟨c, e, e2, e3⟩ => ?_⟩
    subst e e2
    refine ⟨nv m, rfl, _, _, rfl, rfl, _, rfl, ite2 (fun h => ?_) (fun h => ?_)⟩
    · have hm : 0 < m := by have := of_decide_eq_true h; omega
      refine ⟨fun σ' H'' => ∃ m', m' < m ∧ ∃ c, σ' = [some (nv c), some (nv m')] ∧ H'' = H' ∧ Nat.gcd c m' = Nat.gcd a b, fun _ _ h => h, nv m, rfl, nv c, rfl, nv m, rfl, _, _, rfl, rfl, by omega, _, _, rfl, c % m, Nat.mod_lt _ hm, m, ?_, rfl, ?_⟩
      · show [some (nv m), some (V.int (Int.fmod (c : Int) (m : Int)))] = _
        rw [Int.fmod_eq_emod_of_nonneg _ (by omega)]
        rfl
      · rw [← e3, Nat.gcd_comm c m, Nat.gcd_rec m c, Nat.gcd_comm]
    · have hm : m = 0 := by
        by_cases h0 : 0 < m
        · exact absurd (decide_eq_true (by omega : (0 : Int) < (m : Int))) h
        · omega
      subst hm
      rw [Nat.gcd_zero_right] at e3
      subst e3
      exact ⟨_, rfl, q⟩
end
end Fs

set_option maxHeartbeats 4000000
/-! Orders of places; figures and letters keep the order. -/
namespace Fs
open PySem PySem.Spec PyProof.Rows L2
/-- i comes ahead of j: by lt, and what is alike by place -/
def bef (lt : Nat → Nat → Prop) (i j : Nat) : Prop := lt i j ∨ (¬ lt j i ∧ i < j)
/-- THE order of n things by lt -/
def IsOrd (lt : Nat → Nat → Prop) (n : Nat) (o : List Nat) : Prop := o.Perm (List.range n) ∧ o.Pairwise (bef lt)
/-- rows by rows -/
def rlt (rows : List (List Nat)) (i j : Nat) : Prop := rows.getD i [] < rows.getD j []
def SpOk (lt : Nat → Nat → Prop) (b n : Nat) (rows : List (List Nat)) : Prop :=
  rows.length = n ∧ 2 ≤ b ∧ b ≤ 64 ∧ (∃ w, w ≤ 200 ∧ ∀ r ∈ rows, r.length = w) ∧ (∀ r ∈ rows, ∀ x ∈ r, x < b) ∧ ∀ i j, i < n → j < n → (rlt rows i j ↔ lt i j)
theorem cons_lt (a b : Nat) (l m : List Nat) : a :: l < b :: m ↔ a < b ∨ (a = b ∧ l < m) := List.cons_lt_cons_iff
theorem dig_mod (b n : Nat) : ∀ m k, m ≤ k → dig b (n % b ^ k) m = dig b n m
  | 0, k, _ => rfl
  | m + 1, k, h => by
    show (n % b ^ k / b ^ m % b) :: dig b (n % b ^ k) m = (n / b ^ m % b) :: dig b n m
    rw [dig_mod b n m k (by omega)]
    congr 1
    have e : b ^ k = b ^ m * (b * b ^ (k - (m + 1))) := by
      rw [← Nat.mul_assoc, ← Nat.pow_succ, ← Nat.pow_add]
      congr 1
      omega
    rw [e, Nat.mod_mul_right_div_self, Nat.mod_mul_right_mod]
theorem dig_lt {b : Nat} (hb : 0 < b) : ∀ (m n k : Nat), n < b ^ m → k < b ^ m → (dig b n m < dig b k m ↔ n < k)
  | 0, n, k, h1, h2 => by
    simp at h1 h2
    subst h1 h2
    show ([] : List Nat) < [] ↔ _
    simp
  | m + 1, n, k, h1, h2 => by
    show (n / b ^ m % b) :: dig b n m < (k / b ^ m % b) :: dig b k m ↔ _
    have hp : 0 < b ^ m := Nat.pow_pos hb
    have q1 : n / b ^ m < b := Nat.div_lt_of_lt_mul (by rw [← Nat.pow_succ]; exact h1)
    have q2 : k / b ^ m < b := Nat.div_lt_of_lt_mul (by rw [← Nat.pow_succ]; exact h2)
    rw [cons_lt, Nat.mod_eq_of_lt q1, Nat.mod_eq_of_lt q2, ← dig_mod b n m m (Nat.le_refl _), ← dig_mod b k m m (Nat.le_refl _), dig_lt hb m _ _ (Nat.mod_lt _ hp) (Nat.mod_lt _ hp)]
    have d1 := Nat.div_add_mod n (b ^ m)
    have d2 := Nat.div_add_mod k (b ^ m)
    have m1 := Nat.mod_lt n hp
    have m2 := Nat.mod_lt k hp
    generalize n % b ^ m = r1 at *
    generalize k % b ^ m = r2 at *
    generalize n / b ^ m = s1 at *
    generalize k / b ^ m = s2 at *
    constructor
    · rintro (h | ⟨h, h'⟩)
      · have : b ^ m * s1 + b ^ m ≤ b ^ m * s2 := by rw [← Nat.mul_succ]; exact Nat.mul_le_mul_left _ h
        omega
      · rw [h] at d1; omega
    · intro h
      rcases Nat.lt_trichotomy s1 s2 with h3 | h3 | h3
      · exact .inl h3
      · refine .inr ⟨h3, ?_⟩
        rw [h3] at d1; omega
      · have : b ^ m * s2 + b ^ m ≤ b ^ m * s1 := by rw [← Nat.mul_succ]; exact Nat.mul_le_mul_left _ h3
        omega
theorem dig_small {b : Nat} (hb : 0 < b) (n : Nat) : ∀ m, ∀ x ∈ dig b n m, x < b
  | 0, x, h => by cases h
  | m + 1, x, h => by
    rcases List.mem_cons.mp h with rfl | h
    · exact Nat.mod_lt _ hb
    · exact dig_small hb n m x h
def ilt (ns : List Int) (i j : Nat) : Prop := ns.getD i 0 < ns.getD j 0
/-- numbers, by their figures over the least -/
def spellN (b m : Nat) (least : Int) (ns : List Int) : List (List Nat) := ns.map fun k => dig b (k - least).toNat m
theorem spell_ok {b m : Nat} {least : Int} {ns : List Int} (hb : 2 ≤ b) (hb2 : b ≤ 64) (hm : m ≤ 200) (hn : ∀ x ∈ ns, least ≤ x ∧ (x - least).toNat < b ^ m) : SpOk (ilt ns) b ns.length (spellN b m least ns) := by
  refine ⟨by simp [spellN], hb, hb2, ⟨m, hm, fun r hr => ?_⟩, fun r hr x hx => ?_, fun i j hi hj => ?_⟩
  · obtain ⟨k, _, rfl⟩ := List.mem_map.mp hr
    exact dig_len ..
  · obtain ⟨k, _, rfl⟩ := List.mem_map.mp hr
    exact dig_small (by omega) _ _ x hx
  · have g : ∀ k, k < ns.length → (spellN b m least ns).getD k [] = dig b (ns.getD k 0 - least).toNat m := fun k hk => by
      simp [spellN, List.getD, hk]
    have z : ∀ k, k < ns.length → ns.getD k 0 ∈ ns := fun k hk => by
      simp [List.getD, hk]
    unfold rlt ilt
    rw [g i hi, g j hj, dig_lt (by omega) m _ _ (hn _ (z i hi)).2 (hn _ (z j hj)).2]
    have h1 := (hn _ (z i hi)).1
    have h2 := (hn _ (z j hj)).1
    omega
/-! ### letters -/
abbrev Letters (z : Str) : Prop := ∀ c ∈ z.cps.toList, 97 ≤ c ∧ c ≤ 122
def lett (z : Str) (i : Nat) : Nat := match z.cps.toList[i]? with
  | some c => c - 96
  | none => 0
def pad (xs : List Nat) : Nat → List Nat
  | 0 => []
  | w + 1 => match xs with
    | [] => 0 :: pad [] w
    | x :: r => (x - 96) :: pad r w
theorem pad_eq : ∀ (w : Nat) (xs : List Nat), pad xs w = (List.range w).map fun i => (match xs[i]? with
    | some c => c - 96
    | none => 0)
  | 0, xs => rfl
  | w + 1, [] => by
    rw [List.range_succ_eq_map, List.map_cons, List.map_map]
    show 0 :: pad [] w = _
    rw [pad_eq w []]
    rfl
  | w + 1, x :: r => by
    rw [List.range_succ_eq_map, List.map_cons, List.map_map]
    show (x - 96) :: pad r w = _
    rw [pad_eq w r]
    rfl
theorem nil_lt (y : Nat) (s : List Nat) : [] < y :: s := List.nil_lt_cons ..
theorem not_lt_nil (r : List Nat) : ¬ r < [] := List.not_lt_nil r
theorem pad_lt : ∀ (w : Nat) (x y : List Nat), (∀ c ∈ x, 97 ≤ c) → (∀ c ∈ y, 97 ≤ c) → x.length ≤ w → y.length ≤ w → (pad x w < pad y w ↔ x < y)
  | 0, x, y, _, _, h1, h2 => by
    rw [List.length_eq_zero_iff.mp (Nat.le_zero.mp h1), List.length_eq_zero_iff.mp (Nat.le_zero.mp h2)]
    exact ⟨fun h => absurd h (not_lt_nil _), fun h => absurd h (not_lt_nil _)⟩
  | w + 1, [], [], _, _, _, _ => by
    refine ⟨fun h => ?_, fun h => absurd h (not_lt_nil _)⟩
    exact absurd h (List.lt_irrefl _)
  | w + 1, [], y :: s, _, hy, _, _ => by
    have := hy y (List.mem_cons_self ..)
    refine ⟨fun _ => nil_lt _ _, fun _ => ?_⟩
    show 0 :: _ < (y - 96) :: _
    rw [cons_lt]
    exact .inl (by omega)
  | w + 1, x :: r, [], hx, _, _, _ => by
    have := hx x (List.mem_cons_self ..)
    refine ⟨fun h => ?_, fun h => absurd h (not_lt_nil _)⟩
    have h : (x - 96) :: pad r w < 0 :: pad [] w := h
    rw [cons_lt] at h
    omega
  | w + 1, x :: r, y :: s, hx, hy, h1, h2 => by
    have a := hx x (List.mem_cons_self ..)
    have b := hy y (List.mem_cons_self ..)
    show (x - 96) :: pad r w < (y - 96) :: pad s w ↔ _
    rw [cons_lt, cons_lt, pad_lt w r s (fun c h => hx c (List.mem_cons_of_mem _ h)) (fun c h => hy c (List.mem_cons_of_mem _ h)) (by simpa using h1) (by simpa using h2)]
    constructor
    · rintro (h | ⟨h, h'⟩)
      · exact .inl (by omega)
      · exact .inr ⟨by omega, h'⟩
    · rintro (h | ⟨h, h'⟩)
      · exact .inl (by omega)
      · exact .inr ⟨by omega, h'⟩
def tlt (zs : List Str) (i j : Nat) : Prop := (zs.getD i ⟨#[]⟩).cps.toList < (zs.getD j ⟨#[]⟩).cps.toList
def spellX (w : Nat) (zs : List Str) : List (List Nat) := zs.map fun z => (List.range w).map (lett z)
theorem lett_pad (z : Str) (w : Nat) : (List.range w).map (lett z) = pad z.cps.toList w := (pad_eq w _).symm
theorem lett_small {z : Str} (h : Letters z) (i : Nat) : lett z i < 27 := by
  unfold lett
  split
  · rename_i c e
    have := h c (List.mem_of_getElem? e)
    omega
  · omega
theorem spellX_ok {w : Nat} {zs : List Str} (hw : w ≤ 200) (hz : ∀ z ∈ zs, Letters z ∧ z.length ≤ w) : SpOk (tlt zs) 27 zs.length (spellX w zs) := by
  refine ⟨by simp [spellX], by omega, by omega, ⟨w, hw, fun r hr => ?_⟩, fun r hr x hx => ?_, fun i j hi hj => ?_⟩
  · obtain ⟨k, _, rfl⟩ := List.mem_map.mp hr
    simp
  · obtain ⟨k, hk, rfl⟩ := List.mem_map.mp hr
    obtain ⟨i, _, rfl⟩ := List.mem_map.mp hx
    exact lett_small (hz k hk).1 i
  · have g : ∀ k, k < zs.length → (spellX w zs).getD k [] = pad (zs.getD k ⟨#[]⟩).cps.toList w := fun k hk => by
      rw [← lett_pad]
      simp [spellX, List.getD, hk]
    have z : ∀ k, k < zs.length → zs.getD k ⟨#[]⟩ ∈ zs := fun k hk => by
      simp [List.getD, hk]
    unfold rlt tlt
    rw [g i hi, g j hj]
    have l : ∀ k, k < zs.length → (zs.getD k ⟨#[]⟩).cps.toList.length ≤ w := fun k hk => (hz _ (z k hk)).2
    exact pad_lt w _ _ (fun c h => ((hz _ (z i hi)).1 c h).1) (fun c h => ((hz _ (z j hj)).1 c h).1) (l i hi) (l j hj)
end Fs

set_option maxHeartbeats 4000000
/-! Keys and their worth. -/
namespace Fs
open PySem PySem.Spec PyProof.Rows L2
inductive Kd
  | N
  | P
  | X
def Kd.s : Kd → Str
  | .N => "number"
  | .P => "part"
  | .X => "text"
inductive Ky
  | num (n : Int)
  | prt (a : Int) (b : Nat)
  | txt (z : Str)
abbrev CC : Nat := 9690712164777231700912800
def KeyV (K : PySem.W.Frag) (G : Hp) (v : V) : Ky → Prop
  | .num n => v = .int n
  | .prt a b => ∃ t, v = .ref t ∧ SqT K G t [.int a, nv b]
  | .txt z => v = .str z
def KyOk : Kd → Ky → Prop
  | .N, .num n => n.natAbs < 10 ^ 18
  | .P, .prt a b => a.natAbs < 10 ^ 18 ∧ 1 ≤ b ∧ b ≤ 60 ∧ Nat.gcd a.natAbs b = 1
  | .X, .txt z => Letters z ∧ z.length ≤ 20
  | _, _ => False
def klt1 : Ky → Ky → Prop
  | .num n, .num m => n < m
  | .prt a b, .prt c d => a * ((CC / b : Nat) : Int) < c * ((CC / d : Nat) : Int)
  | .txt z, .txt y => z.cps.toList < y.cps.toList
  | _, _ => False
def klt (ks : List Ky) (i j : Nat) : Prop := klt1 (ks.getD i (.num 0)) (ks.getD j (.num 0))
theorem KeyV.up {K : PySem.W.Frag} {G G' : Hp} (s : Same G G') {v : V} {k : Ky} (h : KeyV K G v k) : KeyV K G' v k := by
  cases k with
  | num n => exact h
  | prt a b =>
    obtain ⟨t, e, h⟩ := h
    exact ⟨t, e, Same.tup s h⟩
  | txt z => exact h
abbrev Keys (K : PySem.W.Frag) (G : Hp) (us : List V) (ks : List Ky) : Prop := Each (KeyV K G) us ks
theorem Keys.up {K : PySem.W.Frag} {G G' : Hp} (s : Same G G') {us : List V} {ks : List Ky} (h : Keys K G us ks) : Keys K G' us ks := h.mono fun _ _ => KeyV.up s
/-- a part, its two numbers -/
def ab : Ky → Int × Nat
  | .prt a b => (a, b)
  | _ => (0, 1)
def numOf : Ky → Int
  | .num n => n
  | _ => 0
def txtOf : Ky → Str
  | .txt z => z
  | _ => ⟨#[]⟩
theorem dvd_CC : ∀ b, 1 ≤ b → b ≤ 60 → b ∣ CC := by
  have h : ∀ b, b < 61 → 1 ≤ b → b ∣ CC := by decide +kernel
  exact fun b h1 h2 => h b (by omega) h1
theorem lcm_step (m n : Nat) : m / Nat.gcd m n * n = Nat.lcm m n := by
  unfold Nat.lcm
  rw [Nat.mul_comm m n, Nat.mul_div_assoc _ (Nat.gcd_dvd_left m n), Nat.mul_comm]
theorem part_scale {a c : Int} {b d L : Nat} (hL : L ∣ CC) (h0 : 0 < L) (hb : b ∣ L) (hd : d ∣ L) (hb0 : 0 < b) (hd0 : 0 < d) :
    a * ((L / b : Nat) : Int) < c * ((L / d : Nat) : Int) ↔ a * ((CC / b : Nat) : Int) < c * ((CC / d : Nat) : Int) := by
  obtain ⟨q, e⟩ := hL
  have hq : 0 < q := by
    rcases Nat.eq_zero_or_pos q with h | h
    · rw [h] at e; cases e
    · exact h
  have f : ∀ b, b ∣ L → 0 < b → CC / b = L / b * q := fun b hb hbp => by
    obtain ⟨r, rfl⟩ := hb
    rw [e, Nat.mul_assoc, Nat.mul_div_cancel_left _ hbp, Nat.mul_div_cancel_left _ hbp]
  rw [f b hb hb0, f d hd hd0, Int.natCast_mul, Int.natCast_mul, ← Int.mul_assoc, ← Int.mul_assoc]
  have hq' : (0 : Int) < (q : Int) := by omega
  exact ⟨fun h => Int.mul_lt_mul_of_pos_right h hq', fun h => Int.lt_of_mul_lt_mul_right h (Int.le_of_lt hq')⟩
end Fs

set_option maxHeartbeats 4000000
/-! Keys spelled as rows. -/
namespace Fs
open PySem PySem.Spec PyProof.Rows L2
section
variable {P : Program} {w : World} {K : PySem.W.Frag} {mg : Str → Option Value} {base : Heap} {T : TL}
def sp_least_bottom (K : PySem.W.Frag) (T : TL) : Sp := fun vs H Q _ => ∃ (a : Addr) (us : List V) (ps : List (Int × Nat)), vs = [.ref a] ∧ SqL K H a us ∧ Each (fun v p => ∃ t, v = .ref t ∧ SqT K H t [.int p.1, nv p.2]) us ps ∧ (∀ p ∈ ps, 1 ≤ p.2 ∧ p.2 ≤ 60) ∧
  ∀ L : Nat, L ∣ CC → (∀ p ∈ ps, p.2 ∣ L) → Q (nv L) H
theorem sc_least_bottom : FnScope ["parts", "found", "top", "bottom"] ["parts"] (defScope s_least_bottom) := ⟨rfl, rfl, rfl, by decide +kernel, rfl, by decide +kernel, by decide +kernel⟩
theorem cal_least_bottom (t : Ctx K mg base T) : Cal P w K mg base 2 "least_bottom" ["parts"] (sp_least_bottom K T) := by
  refine cal_of t.d_least_bottom t.g_least_bottom sc_least_bottom (fun _ _ _ _ _ _ us hl => match us, hl with | [_], _ => rfl) (fun vs H Q E h => ?_) (fun cdv A outer s H vs Q E hr h => ?_)
  · obtain ⟨a, us, ps, rfl, _⟩ := h
    rfl
  · obtain ⟨a, us, ps, rfl, ha, he, hp, q⟩ := h
    refine ⟨_, (pss_cons (ps_set (i := 1) sc_least_bottom.nd rfl (.inl rfl) pe_int)
      (pss_cons (ps_for PassesOwn.never rfl (piL (pv 0)) (pg_tup (by rfl) (pgs_cons (pg_name (i := 2) sc_least_bottom.nd rfl (.inl rfl)) (pgs_cons (pg_name (i := 3) sc_least_bottom.nd rfl (.inl rfl)) pgs_nil)))
        (pss_one (ps_set (i := 1) sc_least_bottom.nd rfl (.inl rfl) (pe_op op_mul (pe_op op_fdivN (pv 1) (pe_cal (cal_shared_factor t) hr (pa_cons (pv 1) (pa_cons (pv 3) pa_nil)))) (pv 3)))))
      (pss_one (ps_ret (pv 1))))), ?_⟩
    refine ⟨.ref a, rfl, a, rfl, ⟨_, ha⟩, for_list (K := K) (a := a) (xs := us) (fun i σ H' => ∃ L x y, σ = [some (.ref a), some (nv L), x, y] ∧ H' = H ∧ L ∣ CC ∧ ∀ p ∈ ps.take i, p.2 ∣ L)
      ⟨1, none, none, rfl, rfl, Nat.one_dvd _, fun p h => by cases h⟩ (fun i σ H' _ ⟨_, _, _, _, e, _⟩ => e ▸ ha) (fun i v σ H' hv ⟨L, x, y, e, e2, h1, h2⟩ => ?_) (fun σ H' ⟨L, x, y, e, e2, h1, h2⟩ => ?_)⟩
    · subst e e2
      obtain ⟨p, ep, t, rfl, ht⟩ := he.at_v hv
      obtain ⟨b1, b2⟩ := hp p (List.mem_of_getElem? ep)
      have hg : Nat.gcd L p.2 ≤ p.2 := Nat.gcd_le_right _ (by omega)
      have hg0 : 0 < Nat.gcd L p.2 := Nat.gcd_pos_of_pos_right _ (by omega)
      refine ⟨t, _, rfl, ht, rfl, _, _, rfl, _, _, rfl, rfl, nv L, rfl, nv L, rfl, nv p.2, rfl, L, p.2, rfl, ?_⟩
      refine ⟨_, _, rfl, rfl, ⟨by omega, by show Nat.gcd L p.2 < _; omega⟩, nv p.2, rfl, _, _, rfl, rfl, .inr ⟨by omega, by omega⟩, Nat.lcm L p.2, some (.int p.1), some (nv p.2), ?_, rfl, Nat.lcm_dvd h1 (dvd_CC _ b1 b2), fun r hr => ?_⟩
      · show [_, some (V.int (Int.fdiv (L : Int) (Nat.gcd L p.2 : Nat) * (p.2 : Int))), _, _] = _
        rw [Int.fdiv_eq_ediv_of_nonneg _ (by omega), ← lcm_step]
        rfl
      · rw [take_snoc ep] at hr
        rcases List.mem_append.mp hr with hr | hr
        · exact Nat.dvd_trans (h2 r hr) (Nat.dvd_lcm_left _ _)
        · rw [List.mem_singleton.mp hr]
          exact Nat.dvd_lcm_right _ _
    · subst e e2
      rw [he.1, List.take_length] at h2
      exact ⟨_, rfl, q L h1 h2⟩
def sp_numbers_spelled (K : PySem.W.Frag) (T : TL) : Sp := fun vs H Q _ => ∃ (G : Hp) (l : List (Addr × HO)) (a : Addr) (ns : List Int) (b : Nat), vs = [.ref a, nv b] ∧ Own T G H l ∧ SqL K G a (ns.map V.int) ∧ 2 ≤ b ∧ b ≤ 64 ∧ (∀ x ∈ ns, x.natAbs < 2 ^ 190) ∧ ns.length ≤ 1000 ∧
  ∀ G' H' p us rows, Same G G' → Own T G' H' ((p, .lst us) :: l) → Rows K G' us rows → SpOk (ilt ns) b ns.length rows → Q (.ref p) H'
theorem sc_numbers_spelled : FnScope ["keys", "base", "least", "columns", "key"] ["keys", "base"] (defScope s_numbers_spelled) := ⟨rfl, rfl, rfl, by decide +kernel, rfl, by decide +kernel, by decide +kernel⟩
theorem cal_numbers_spelled (t : Ctx K mg base T) : Cal P w K mg base 2 "numbers_spelled" ["keys", "base"] (sp_numbers_spelled K T) := by
  refine cal_of t.d_numbers_spelled t.g_numbers_spelled sc_numbers_spelled (fun _ _ _ _ _ _ us hl => match us, hl with | [_, _], _ => rfl) (fun vs H Q E h => ?_) (fun cdv A outer s H vs Q E hr h => ?_)
  · obtain ⟨G, l, a, ns, b, rfl, _⟩ := h
    rfl
  · obtain ⟨G, l, a, ns, b, rfl, O, ha, hb, hb2, hx, hn, q⟩ := h
    refine ⟨_, (pss_cons (ps_set (i := 2) sc_numbers_spelled.nd rfl (.inr rfl) (pe_callBK (cr_minDef rfl hr.units) (by rfl) t.min_ (by decide +kernel) (pa_cons (pv 0) pa_nil) (pk_cons pe_int pk_nil)))
      (pss_cons (ps_set (i := 3) sc_numbers_spelled.nd rfl (.inr rfl) (pe_cal (cal_many_figures t) hr (pa_cons (pe_op op_sub (pe_callBK (cr_maxDef rfl hr.units) (by rfl) t.max_ (by decide +kernel) (pa_cons (pv 0) pa_nil) (pk_cons pe_int pk_nil)) (pv 2)) (pa_cons (pv 1) pa_nil))))
      (pss_one (ps_ret (pe_lc (own := [("key", 4)]) (g := gName 4) (tt := tYes) (by rfl) sc_numbers_spelled.nd (piL (pv 0)) (blkOk_by (own := [("key", 4)]) (N := ["keys", "base", "least", "columns", "key"]) (sc := defScope s_numbers_spelled) (by decide +kernel)) (fun _ _ _ _ _ => (pg_name (i := 4) sc_numbers_spelled.nd rfl (.inl rfl))) (fun _ _ _ _ _ => pts_nil) (fun _ _ _ _ _ => (pe_cal (cal_figures t) hr (pa_cons (pe_op op_sub (pv 4) (pv 2)) (pa_cons (pv 1) (pa_cons (pv 3) pa_nil)))))))))), ?_⟩
    have fin : ∀ least : Int, (ns = [] ∧ least = 0 ∨ least ∈ ns ∧ ∀ y ∈ ns, least ≤ y) → ∀ most : Int, (ns = [] ∧ most = 0 ∨ most ∈ ns ∧ ∀ y ∈ ns, y ≤ most) → (least ≤ most) ∧ (most - least).toNat < 2 ^ 200 := by
      rintro least (⟨h, rfl⟩ | ⟨h, h'⟩) most (⟨g, rfl⟩ | ⟨g, g'⟩)
      · exact ⟨by omega, by decide⟩
      · rw [h] at g; cases g
      · rw [g] at h; cases h
      · have := hx _ h
        have := hx _ g
        exact ⟨h' _ g, by omega⟩
    have go : ∀ least : Int, (ns = [] ∧ least = 0 ∨ least ∈ ns ∧ ∀ y ∈ ns, least ≤ y) → ∀ most : Int, (ns = [] ∧ most = 0 ∨ most ∈ ns ∧ ∀ y ∈ ns, y ≤ most) → ∀ m : Nat, (most - least).toNat < b ^ m → m ≤ 200 → ∀ k ∈ ns, least ≤ k ∧ (k - least).toNat < b ^ m := by
      rintro least (⟨h, rfl⟩ | ⟨h, h'⟩) most (⟨g, rfl⟩ | ⟨g, g'⟩) m h1 h2 k hk
      · rw [h] at hk; cases hk
      · rw [h] at hk; cases hk
      · rw [g] at hk; cases hk
      · have := h' _ hk
        have := g' _ hk
        exact ⟨h' _ hk, Nat.lt_of_le_of_lt (by omega) h1⟩
    refine ⟨.ref a, rfl, a, ns, 0, rfl, rfl, O.seq ha, fun least hl => ?_⟩
    refine ⟨.ref a, rfl, a, ns, 0, rfl, rfl, O.seq ha, fun most hm => ?_⟩
    obtain ⟨f1, f2⟩ := fin least hl most hm
    refine ⟨_, rfl, _, _, rfl, rfl, nv b, rfl, (most - least).toNat, b, ?_, hb, hb2, f2, fun m m1 m2 => ?_⟩
    · show [V.int (most - least), _] = [V.int (((most - least).toNat : Nat) : Int), _]
      rw [Int.toNat_of_nonneg (by omega)]
    have z := go least hl most hm m m1 m2
    refine ⟨.ref a, rfl, a, rfl, ⟨_, O.seq ha⟩, fun D nD => lc_own (ys := ns) walk_list O nD (by simp) (by simp; omega) (R := fun G v k => RowN K G v (dig b (k - least).toNat m)) (fun _ _ _ _ s h => RowN.up s h) (fun H' s => s.seq ha)
      (fun i x k G1 H1 H2 acc Qc hi ek s1 O1 hy hQ => ?_) (fun G' H' us s O1 he => ?_)⟩
    · obtain ⟨rfl, hy⟩ := hy
      obtain ⟨k', ek', rfl⟩ := map_at hy
      obtain rfl : k' = k := Option.some.inj (ek'.symm.trans ek)
      obtain ⟨z1, z2⟩ := z k' (List.mem_of_getElem? ek)
      refine ⟨rfl, .int k', rfl, .int least, rfl, _, _, rfl, rfl, nv b, rfl, nv m, rfl, G1, _, (k' - least).toNat, b, m, ?_, O1, hb, hb2, z2, m2, fun H3 p O3 => ?_⟩
      · show [V.int (k' - least), _, _] = [V.int (((k' - least).toNat : Nat) : Int), _, _]
        rw [Int.toNat_of_nonneg (by omega)]
      · exact hQ _ _ H3 O3.gup O3.frz ⟨p, rfl, .inl (.inl upd_same)⟩
    · refine q G' H' D us (spellN b m least ns) s O1 ?_ (spell_ok hb hb2 m2 z)
      refine ⟨by rw [he.1]; simp [spellN], fun i v r h1 h2 => ?_⟩
      unfold spellN at h2
      rw [List.getElem?_map] at h2
      cases e : ns[i]? with
      | none => rw [e] at h2; cases h2
      | some k =>
        rw [e] at h2
        cases h2
        exact he.2 i v k h1 e
theorem LETT_at : ∀ k, k < 26 → Builtin.Str.occurrences ("abcdefghijklmnopqrstuvwxyz" : Str) ⟨#[97 + k]⟩ 0 ("abcdefghijklmnopqrstuvwxyz" : Str).length 1 = [k] := by decide +kernel
def sp_letter_at (K : PySem.W.Frag) (T : TL) : Sp := fun vs H Q _ => ∃ (z : Str) (i : Nat), vs = [.str z, nv i] ∧ Letters z ∧ z.length ≤ 20 ∧ Q (nv (lett z i)) H
theorem sc_letter_at : FnScope ["text", "column"] ["text", "column"] (defScope s_letter_at) := ⟨rfl, rfl, rfl, by decide +kernel, rfl, by decide +kernel, by decide +kernel⟩
theorem cal_letter_at (t : Ctx K mg base T) : Cal P w K mg base 1 "letter_at" ["text", "column"] (sp_letter_at K T) := by
  refine cal_of t.d_letter_at t.g_letter_at sc_letter_at (fun _ _ _ _ _ _ us hl => match us, hl with | [_, _], _ => rfl) (fun vs H Q E h => ?_) (fun cdv A outer s H vs Q E hr h => ?_)
  · obtain ⟨z, i, rfl, _⟩ := h
    rfl
  · obtain ⟨z, i, rfl, hz, hl, q⟩ := h
    refine ⟨_, (pss_cons (ps_if (pt_cmpR op_ge (pv 1) (pe_callB call_len_str (by rfl) t.len (by decide +kernel) (pa_cons (pv 0) pa_nil)) (nomark _))
        (pss_one (ps_ret pe_int))
        pss_nil)
      (pss_one (ps_ret (pe_op op_add (pe_m1 PySem.F.slot_str_index PySem.F.type_str_index mt_sindex (pe_gs t.c_LETTERS) (pe_ix ix_str (pv 0) (pv 1) (fun _ _ => rfl))) pe_int)))), ?_⟩
    refine ⟨nv i, rfl, .str z, rfl, _, rfl, sz (by omega), _, _, rfl, rfl, _, rfl, ite2 (fun h => ?_) (fun h => ?_)⟩
    · have h := of_decide_eq_true h
      have e : lett z i = 0 := by
        unfold lett
        rw [List.getElem?_eq_none (by show z.length ≤ i; omega)]
      rw [e] at q
      exact q
    · have h : i < z.length := by
        by_cases h0 : i < z.length
        · exact h0
        · exact absurd (decide_eq_true (by omega : (z.length : Int) ≤ (i : Int))) h
      have h : i < z.cps.toList.length := h
      have e : z.cps.toList[i]? = some z.cps.toList[i] := List.getElem?_eq_getElem h
      obtain ⟨c1, c2⟩ := hz _ (List.mem_of_getElem? e)
      have e2 : lett z i = z.cps.toList[i] - 97 + 1 := by
        unfold lett
        rw [e]
        show z.cps.toList[i] - 96 = _
        omega
      rw [e2] at q
      have o := LETT_at (z.cps.toList[i] - 97) (by omega)
      rw [show 97 + (z.cps.toList[i] - 97) = z.cps.toList[i] by omega] at o
      exact ⟨⟨_, rfl⟩, .str z, rfl, nv i, rfl, z, _, _, rfl, rfl, sz (by omega), atI_nat e, _, _, _, _, rfl, rfl, o, _, _, rfl, rfl, q⟩
def sp_texts_spelled (K : PySem.W.Frag) (T : TL) : Sp := fun vs H Q _ => ∃ (G : Hp) (l : List (Addr × HO)) (a : Addr) (zs : List Str), vs = [.ref a] ∧ Own T G H l ∧ SL K G a zs ∧ (∀ z ∈ zs, Letters z ∧ z.length ≤ 20) ∧ zs.length ≤ 1000 ∧
  ∀ G' H' p us rows, Same G G' → Own T G' H' ((p, .lst us) :: l) → Rows K G' us rows → SpOk (tlt zs) 27 zs.length rows → Q (.ref p) H'
theorem sc_texts_spelled : FnScope ["keys", "columns", "key", "column"] ["keys"] (defScope s_texts_spelled) := ⟨rfl, rfl, rfl, by decide +kernel, rfl, by decide +kernel, by decide +kernel⟩
theorem cal_texts_spelled (t : Ctx K mg base T) : Cal P w K mg base 2 "texts_spelled" ["keys"] (sp_texts_spelled K T) := by
  refine cal_of t.d_texts_spelled t.g_texts_spelled sc_texts_spelled (fun _ _ _ _ _ _ us hl => match us, hl with | [_], _ => rfl) (fun vs H Q E h => ?_) (fun cdv A outer s H vs Q E hr h => ?_)
  · obtain ⟨G, l, a, zs, rfl, _⟩ := h
    rfl
  · obtain ⟨G, l, a, zs, rfl, O, ha, hz, hn, q⟩ := h
    refine ⟨_, (pss_cons (ps_set (i := 1) sc_texts_spelled.nd rfl (.inr rfl) (pe_callBK (cr_maxDef rfl hr.units) (by rfl) t.max_ (by decide +kernel) (pa_cons (pe_lc (own := [("key", 2)]) (g := gName 2) (tt := tYes) (by rfl) sc_texts_spelled.nd (piL (pv 0)) (blkOk_by (own := [("key", 2)]) (N := ["keys", "columns", "key", "column"]) (sc := defScope s_texts_spelled) (by decide +kernel)) (fun _ _ _ _ _ => (pg_name (i := 2) sc_texts_spelled.nd rfl (.inl rfl))) (fun _ _ _ _ _ => pts_nil) (fun _ _ _ _ _ => (pe_callB call_len_str (by rfl) t.len (by decide +kernel) (pa_cons (pv 2) pa_nil)))) pa_nil) (pk_cons pe_int pk_nil)))
      (pss_one (ps_ret (pe_lc (own := [("key", 2)]) (g := gName 2) (tt := tYes) (by rfl) sc_texts_spelled.nd (piL (pv 0)) (blkOk_by (own := [("key", 2)]) (N := ["keys", "columns", "key", "column"]) (sc := defScope s_texts_spelled) (by decide +kernel)) (fun _ _ _ _ _ => (pg_name (i := 2) sc_texts_spelled.nd rfl (.inr rfl))) (fun _ _ _ _ _ => pts_nil) (fun _ _ _ _ _ => (pe_callTy tupL (by rfl) t.tuple (by decide +kernel) (pa_cons (pe_lc (own := [("column", 3)]) (g := gName 3) (tt := tYes) (by rfl) sc_texts_spelled.nd (pi_range1 rfl t.range (pa_cons (pv 1) pa_nil)) (blkOk_by (own := [("column", 3)]) (N := ["keys", "columns", "key", "column"]) (sc := {kind := .function, names := [(".0", .local), ("key", .cell), ("tuple", .globalImplicit), ("range", .globalImplicit), ("columns", .cell)], isGenerator := false, isCoroutine := false}) (by decide +kernel)) (fun _ _ _ _ _ => (pg_name (i := 3) sc_texts_spelled.nd rfl (.inl rfl))) (fun _ _ _ _ _ => pts_nil) (fun _ _ _ _ _ => (pe_cal (cal_letter_at t) hr (pa_cons (pv 2) (pa_cons (pv 3) pa_nil))))) pa_nil))))))), ?_⟩
    refine ⟨.ref a, rfl, a, rfl, ⟨_, O.seq ha⟩, fun D nD => lc_val (ys := zs) walk_list O nD (by simp) (by simp; omega) (fun z => nv z.length) (fun H' s => s.seq ha) (fun i x z H1 H2 acc Qc hi ez O1 hy hQ => ?_) (fun H1 O1 => ?_)⟩
    · obtain ⟨rfl, hy⟩ := hy
      obtain ⟨k', ek', rfl⟩ := map_at hy
      obtain rfl : k' = z := Option.some.inj (ek'.symm.trans ez)
      exact ⟨rfl, .str k', rfl, _, rfl, sz (by have := (hz _ (List.mem_of_getElem? ez)).2; omega), hQ _ O1⟩
    have O2 := O1.drop
    refine ⟨D, zs.map fun z => (z.length : Int), 0, rfl, rfl, .inl (.inl ?_), fun m hm => ?_⟩
    · rw [O1.l0, List.map_map]
      rfl
    obtain ⟨k, rfl, hk⟩ : ∃ k : Nat, m = (k : Int) ∧ k ≤ 200 ∧ ∀ z ∈ zs, Letters z ∧ z.length ≤ k := by
      rcases hm with ⟨h, rfl⟩ | ⟨h, h'⟩
      · exact ⟨0, rfl, by omega, fun z hz => by rw [List.map_eq_nil_iff.mp h] at hz; cases hz⟩
      · obtain ⟨z, h1, rfl⟩ := List.mem_map.mp h
        refine ⟨z.length, rfl, by have := (hz _ h1).2; omega, fun y hy => ⟨(hz y hy).1, ?_⟩⟩
        have := h' _ (List.mem_map.mpr ⟨y, hy, rfl⟩)
        omega
    refine ⟨.ref a, rfl, a, rfl, ⟨_, O2.seq ha⟩, fun E nE => lc_own (ys := zs) walk_list O2 nE (by simp) (by simp; omega) (R := fun G v z => RowN K G v ((List.range k).map (lett z))) (fun _ _ _ _ s h => RowN.up s h) (fun H' s => s.seq ha)
      (fun i x z G1 H1 H2 acc Qc hi ez s1 O1 hy hQ => ?_) (fun G' H' us s O1 he => ?_)⟩
    · obtain ⟨rfl, hy⟩ := hy
      obtain ⟨k', ek', rfl⟩ := map_at hy
      obtain rfl : k' = z := Option.some.inj (ek'.symm.trans ez)
      obtain ⟨z1, z2⟩ := hz k' (List.mem_of_getElem? ez)
      refine ⟨rfl, nv k, rfl, _, rfl, by omega, by omega, fun F nF => lc_val (ys := List.range k) walk_r0 O1 nF (by simp) (by omega) (fun i => nv (lett k' i)) (fun _ _ => trivial) (fun j x y H3 H4 acc2 Qd hj ey O3 hy3 hQd => ?_) (fun H3 O3 => ?_)⟩
      · obtain ⟨rfl, rfl⟩ := hy3
        obtain rfl : y = j := by
          rw [List.getElem?_range (by omega)] at ey
          exact (Option.some.inj ey).symm
        exact ⟨rfl, .str k', rfl, nv y, rfl, k', y, rfl, z1, z2, hQd _ O3⟩
      · refine ⟨F, _, rfl, .inl (.inl O3.l0), fun p np => ?_⟩
        have O4 := own_new (o := .tup ((List.range k).map fun i => nv (lett k' i))) O3.drop np
        refine hQ _ _ _ O4.gup O4.frz ⟨p, rfl, .inl (.inl ?_)⟩
        rw [upd_same, List.map_map]
        rfl
    · refine q G' H' E us (spellX k zs) s O1 ?_ (spellX_ok hk.1 hk.2)
      refine ⟨by rw [he.1]; simp [spellX], fun i v r h1 h2 => ?_⟩
      unfold spellX at h2
      rw [List.getElem?_map] at h2
      cases e : zs[i]? with
      | none => rw [e] at h2; cases h2
      | some k =>
        rw [e] at h2
        cases h2
        exact he.2 i v k h1 e
def sp_width_of (K : PySem.W.Frag) (T : TL) : Sp := fun vs H Q _ => ∃ (a : Addr) (us : List V) (rows : List (List Nat)), vs = [.ref a] ∧ SqL K H a us ∧ Rows K H us rows ∧ Q (nv (rows.headD []).length) H
theorem sc_width_of : FnScope ["rows"] ["rows"] (defScope s_width_of) := ⟨rfl, rfl, rfl, by decide +kernel, rfl, by decide +kernel, by decide +kernel⟩
theorem cal_width_of (t : Ctx K mg base T) : Cal P w K mg base 1 "width_of" ["rows"] (sp_width_of K T) := by
  refine cal_of t.d_width_of t.g_width_of sc_width_of (fun _ _ _ _ _ _ us hl => match us, hl with | [_], _ => rfl) (fun vs H Q E h => ?_) (fun cdv A outer s H vs Q E hr h => ?_)
  · obtain ⟨a, us, rows, rfl, _⟩ := h
    rfl
  · obtain ⟨a, us, rows, rfl, ha, he, q⟩ := h
    refine ⟨_, (pss_one (ps_ret (pe_ifExp (pt_cmpR op_gt (pe_callB lenK (by rfl) t.len (by decide +kernel) (pa_cons (pv 0) pa_nil)) pe_int (nomark _)) (pe_callB lenK (by rfl) t.len (by decide +kernel) (pa_cons (pe_ix ixL (pv 0) pe_int (fun _ _ => rfl)) pa_nil)) pe_int))), ?_⟩
    refine ⟨.ref a, rfl, a, us, rfl, .inl ha, _, _, rfl, rfl, _, rfl, ite2 (fun h => ?_) (fun h => ?_)⟩
    · have h := of_decide_eq_true h
      cases us with
      | nil => exact absurd h (by decide)
      | cons u us =>
        cases rows with
        | nil => cases he.1
        | cons r rows =>
          obtain ⟨t, rfl, ht⟩ := he.2 0 u r rfl rfl
          refine ⟨.ref a, rfl, _, _, _, _, rfl, rfl, ha, atI_nat (j := 0) rfl, t, _, rfl, .inr ht, ?_⟩
          rw [List.length_map]
          exact q
    · cases us with
      | nil =>
        cases rows with
        | nil => exact q
        | cons r rows => cases he.1
      | cons u us =>
        refine absurd (decide_eq_true ?_) h
        show (0 : Int) < ((us.length + 1 : Nat) : Int)
        omega
/-! ### spelled -/
theorem keys_num {G : Hp} {us : List V} {ks : List Ky} (h : Keys K G us ks) (g : ∀ k ∈ ks, KyOk .N k) : us = (ks.map numOf).map V.int := by
  apply List.ext_getElem?
  intro i
  rw [List.map_map, List.getElem?_map]
  cases e : ks[i]? with
  | none =>
    have := List.getElem?_eq_none_iff.mp e
    rw [List.getElem?_eq_none (by rw [h.1]; exact this)]
    rfl
  | some k =>
    obtain ⟨v, e2, r⟩ := h.at_x e
    have := g k (List.mem_of_getElem? e)
    cases k with
    | num n => rw [e2]; exact congrArg some r
    | prt a b => exact False.elim this
    | txt z => exact False.elim this
theorem keys_txt {G : Hp} {us : List V} {ks : List Ky} (h : Keys K G us ks) (g : ∀ k ∈ ks, KyOk .X k) : us = (ks.map txtOf).map V.str := by
  apply List.ext_getElem?
  intro i
  rw [List.map_map, List.getElem?_map]
  cases e : ks[i]? with
  | none =>
    have := List.getElem?_eq_none_iff.mp e
    rw [List.getElem?_eq_none (by rw [h.1]; exact this)]
    rfl
  | some k =>
    obtain ⟨v, e2, r⟩ := h.at_x e
    have := g k (List.mem_of_getElem? e)
    cases k with
    | num n => exact False.elim this
    | prt a b => exact False.elim this
    | txt z => rw [e2]; exact congrArg some r
theorem klt_at {ks : List Ky} {i : Nat} (h : i < ks.length) (d : Ky) : ks.getD i d ∈ ks := by simp [List.getD, h]
theorem spok_lt {lt lt' : Nat → Nat → Prop} {b n : Nat} {rows : List (List Nat)} (h : SpOk lt b n rows) (e : ∀ i j, i < n → j < n → (lt i j ↔ lt' i j)) : SpOk lt' b n rows :=
  ⟨h.1, h.2.1, h.2.2.1, h.2.2.2.1, h.2.2.2.2.1, fun i j hi hj => (h.2.2.2.2.2 i j hi hj).trans (e i j hi hj)⟩
def sp_spelled (K : PySem.W.Frag) (T : TL) : Sp := fun vs H Q _ => ∃ (G : Hp) (l : List (Addr × HO)) (a : Addr) (kd : Kd) (us : List V) (ks : List Ky) (b : Nat), vs = [.str kd.s, .ref a, nv b] ∧ Own T G H l ∧ SqL K G a us ∧ Keys K G us ks ∧ (∀ k ∈ ks, KyOk kd k) ∧ ks.length ≤ 1000 ∧ 2 ≤ b ∧ b ≤ 64 ∧
  ∀ G' H' p rl us' rows b', Same G G' → Own T G' H' l → SqT K G' p [nv b', .ref rl] → SqL K G' rl us' → Rows K G' us' rows → SpOk (klt ks) b' ks.length rows → Q (.ref p) H'
theorem sc_spelled : FnScope ["kind", "keys", "base", "whole", "top", "bottom"] ["kind", "keys", "base"] (defScope s_spelled) := ⟨rfl, rfl, rfl, by decide +kernel, rfl, by decide +kernel, by decide +kernel⟩
theorem cal_spelled (t : Ctx K mg base T) : Cal P w K mg base 3 "spelled" ["kind", "keys", "base"] (sp_spelled K T) := by
  refine cal_of t.d_spelled t.g_spelled sc_spelled (fun _ _ _ _ _ _ us hl => match us, hl with | [_, _, _], _ => rfl) (fun vs H Q E h => ?_) (fun cdv A outer s H vs Q E hr h => ?_)
  · obtain ⟨G, l, a, kd, us, ks, b, rfl, _⟩ := h
    rfl
  · obtain ⟨G, l, a, kd, us, ks, b, rfl, O, ha, hk, ho, hn, hb, hb2, q⟩ := h
    refine ⟨_, (pss_cons (ps_if (pt_cmpR op_eq (pv 0) (pe_gs t.c_NUMBER) (nomark _))
        (pss_one (ps_ret (pe_tup (pa_cons (pv 2) (pa_cons (pe_cal (cal_numbers_spelled t) hr (pa_cons (pv 1) (pa_cons (pv 2) pa_nil))) pa_nil)))))
        pss_nil)
      (pss_cons (ps_if (pt_cmpR op_eq (pv 0) (pe_gs t.c_PART) (nomark _))
        (pss_cons (ps_set (i := 3) sc_spelled.nd rfl (.inr rfl) (pe_cal (cal_least_bottom t) hr (pa_cons (pv 1) pa_nil)))
        (pss_one (ps_ret (pe_tup (pa_cons (pv 2) (pa_cons (pe_cal (cal_numbers_spelled t) hr (pa_cons (pe_lc (own := [("top", 4), ("bottom", 5)]) (g := gTup K 2 (gCons (gName 4) (gCons (gName 5) (gNil)))) (tt := tYes) (by rfl) sc_spelled.nd (piL (pv 1)) (blkOk_by (own := [("top", 4), ("bottom", 5)]) (N := ["kind", "keys", "base", "whole", "top", "bottom"]) (sc := defScope s_spelled) (by decide +kernel)) (fun _ _ _ _ _ => (pg_tup (by rfl) (pgs_cons (pg_name (i := 4) sc_spelled.nd rfl (.inl rfl)) (pgs_cons (pg_name (i := 5) sc_spelled.nd rfl (.inl rfl)) pgs_nil)))) (fun _ _ _ _ _ => pts_nil) (fun _ _ _ _ _ => (pe_op op_mul (pv 4) (pe_op op_fdivN (pv 3) (pv 5))))) (pa_cons (pv 2) pa_nil))) pa_nil))))))
        pss_nil)
      (pss_one (ps_ret (pe_tup (pa_cons (pe_gi t.c_TEXT_BASE) (pa_cons (pe_cal (cal_texts_spelled t) hr (pa_cons (pv 1) pa_nil)) pa_nil))))))), ?_⟩
    refine ⟨.str kd.s, rfl, rfl, _, rfl, ?_⟩
    cases kd with
    | N =>
      refine ite2 (fun _ => ?_) (fun h => absurd (decide_eq_true rfl) h)
      rw [keys_num hk ho] at ha
      refine ⟨nv b, rfl, .ref a, rfl, nv b, rfl, G, l, a, ks.map numOf, b, rfl, O, ha, hb, hb2, ?_, by rw [List.length_map]; exact hn, fun G' H' p us' rows s O1 hR hS => ?_⟩
      · intro x hx
        obtain ⟨k, hk2, rfl⟩ := List.mem_map.mp hx
        have h1 := ho k hk2
        cases k with
        | num n => exact Nat.lt_of_lt_of_le h1 (by decide)
        | prt a b => exact False.elim h1
        | txt z => exact False.elim h1
      · refine ⟨by show 2 ≤ sizeLine; exact sz (by omega), fun t nt => ?_⟩
        have O2 := own_new (o := .tup [nv b, .ref p]) O1.frz nt
        have s2 := O1.gup
        have s3 := O2.gup
        rw [List.length_map] at hS
        refine q _ _ t p us' rows b (s.trans (s2.trans s3)) O2.frz (.inl (.inl upd_same)) (s3.seq (.inl (.inl upd_same))) (hR.up (s2.trans s3)) (spok_lt hS fun i j hi hj => ?_)
        have h1 := ho _ (klt_at hi (.num 0))
        have h2 := ho _ (klt_at hj (.num 0))
        unfold ilt klt
        have g : ∀ i, (ks.map numOf).getD i 0 = numOf (ks.getD i (.num 0)) := fun i => by
          simp only [List.getD, List.getElem?_map]
          cases ks[i]? <;> rfl
        rw [g i, g j]
        revert h1 h2
        cases ks.getD i (.num 0) <;> cases ks.getD j (.num 0) <;> intro h1 h2 <;> first | exact Iff.rfl | exact False.elim h1 | exact False.elim h2
    | P =>
      refine ite2 (fun h => absurd (of_decide_eq_true h) (by decide)) (fun _ => ?_)
      refine ⟨.str Kd.P.s, rfl, rfl, _, rfl, ite2 (fun _ => ?_) (fun h => absurd (decide_eq_true rfl) h)⟩
      have g1 : Each (fun v p => ∃ t, v = .ref t ∧ SqT K G t [.int p.1, nv p.2]) us (ks.map ab) := by
        refine ⟨by rw [List.length_map]; exact hk.1, fun i v p h1 h2 => ?_⟩
        rw [List.getElem?_map] at h2
        cases e : ks[i]? with
        | none => rw [e] at h2; cases h2
        | some k =>
          rw [e] at h2
          obtain rfl := Option.some.inj h2
          have r := hk.2 i v k h1 e
          have h3 := ho k (List.mem_of_getElem? e)
          cases k with
          | num n => exact False.elim h3
          | prt a b => exact r
          | txt z => exact False.elim h3
      have g2 : ∀ p ∈ ks.map ab, 1 ≤ p.2 ∧ p.2 ≤ 60 ∧ p.1.natAbs < 10 ^ 18 := by
        intro p hp
        obtain ⟨k, hk2, rfl⟩ := List.mem_map.mp hp
        have h3 := ho k hk2
        cases k with
        | num n => exact False.elim h3
        | prt a b => exact ⟨h3.2.1, h3.2.2.1, h3.1⟩
        | txt z => exact False.elim h3
      refine ⟨.ref a, rfl, a, us, ks.map ab, rfl, O.seq ha, g1.mono (fun v p ⟨t, e, h⟩ => ⟨t, e, O.tup h⟩), fun p hp => ⟨(g2 p hp).1, (g2 p hp).2.1⟩, fun L hL hd => ?_⟩
      have hL0 : 0 < L := Nat.pos_of_dvd_of_pos hL (by decide)
      have hLC : L ≤ CC := Nat.le_of_dvd (by decide) hL
      refine ⟨nv b, rfl, .ref a, rfl, a, rfl, ⟨_, O.seq ha⟩, fun D nD => lc_val (ys := ks.map ab) walk_list O nD (by rw [List.length_map, hk.1]) (by rw [hk.1]; omega) (fun p => .int (p.1 * ((L / p.2 : Nat) : Int))) (fun H' s => s.seq ha) (fun i x p H1 H2 acc Qc hi ep O1 hy hQ => ?_) (fun H1 O1 => ?_)⟩
      · obtain ⟨rfl, hy⟩ := hy
        obtain ⟨t, rfl, ht⟩ := g1.2 i x p hy ep
        obtain ⟨b1, b2, b3⟩ := g2 p (List.mem_of_getElem? ep)
        refine ⟨t, _, rfl, O1.tup ht, rfl, _, _, rfl, _, _, rfl, rfl, rfl, _, rfl, nv L, rfl, nv p.2, rfl, _, _, rfl, rfl, ⟨by omega, by show p.2 < _; omega⟩, _, _, rfl, rfl, .inl ⟨by omega, by omega⟩, ?_⟩
        have := hQ _ O1
        rw [Int.fdiv_eq_ediv_of_nonneg _ (by omega)]
        exact this
      · have O2 := O1.frz
        have e0 : (ks.map ab).map (fun p => V.int (p.1 * ((L / p.2 : Nat) : Int))) = ((ks.map ab).map fun p => p.1 * ((L / p.2 : Nat) : Int)).map V.int := by rw [List.map_map (g := V.int)]; rfl
        refine ⟨nv b, rfl, _, l, D, (ks.map ab).map fun p => p.1 * ((L / p.2 : Nat) : Int), b, rfl, O2, ?_, hb, hb2, ?_, by simp; exact hn, fun G' H' p us' rows s O3 hR hS => ?_⟩
        · exact .inl (.inl (by rw [upd_same, e0]))
        · intro x hx
          obtain ⟨p, hp, rfl⟩ := List.mem_map.mp hx
          obtain ⟨_, _, b3⟩ := g2 p hp
          rw [Int.natAbs_mul]
          have : (((L / p.2 : Nat) : Int)).natAbs ≤ CC := Nat.le_trans (Nat.div_le_self _ _) hLC
          exact Nat.lt_of_le_of_lt (Nat.mul_le_mul (Nat.le_of_lt b3) this) (by decide)
        · refine ⟨by show 2 ≤ sizeLine; exact sz (by omega), fun t nt => ?_⟩
          have O4 := own_new (o := .tup [nv b, .ref p]) O3.frz nt
          have s2 := O3.gup
          have s3 := O4.gup
          rw [List.length_map, List.length_map] at hS
          refine q _ _ t p us' rows b ((O1.gup.trans s).trans (s2.trans s3)) O4.frz (.inl (.inl upd_same)) (s3.seq (.inl (.inl upd_same))) (hR.up (s2.trans s3)) (spok_lt hS fun i j hi hj => ?_)
          have d1 := hd _ (List.mem_map.mpr ⟨_, klt_at hi (.num 0), rfl⟩)
          have d2 := hd _ (List.mem_map.mpr ⟨_, klt_at hj (.num 0), rfl⟩)
          have h1 := ho _ (klt_at hi (.num 0))
          have h2 := ho _ (klt_at hj (.num 0))
          unfold ilt klt
          have g : ∀ i, i < ks.length → ((ks.map ab).map fun p => p.1 * ((L / p.2 : Nat) : Int)).getD i 0 = (ab (ks.getD i (.num 0))).1 * ((L / (ab (ks.getD i (.num 0))).2 : Nat) : Int) := fun i hi => by
            simp [List.getD, hi]
          rw [g i hi, g j hj]
          revert h1 h2 d1 d2
          cases ks.getD i (.num 0) <;> cases ks.getD j (.num 0) <;> intro d1 d2 h1 h2 <;> first | exact part_scale hL hL0 d1 d2 h1.2.1 h2.2.1 | exact False.elim h1 | exact False.elim h2
    | X =>
      refine ite2 (fun h => absurd (of_decide_eq_true h) (by decide)) (fun _ => ?_)
      refine ⟨.str Kd.X.s, rfl, rfl, _, rfl, ite2 (fun h => absurd (of_decide_eq_true h) (by decide)) (fun _ => ?_)⟩
      rw [keys_txt hk ho] at ha
      refine ⟨.ref a, rfl, G, l, a, ks.map txtOf, rfl, O, ha, ?_, by rw [List.length_map]; exact hn, fun G' H' p us' rows s O1 hR hS => ?_⟩
      · intro x hx
        obtain ⟨k, hk2, rfl⟩ := List.mem_map.mp hx
        have h1 := ho k hk2
        cases k with
        | num n => exact False.elim h1
        | prt a b => exact False.elim h1
        | txt z => exact h1
      · refine ⟨by show 2 ≤ sizeLine; exact sz (by omega), fun t nt => ?_⟩
        have O2 := own_new (o := .tup [nv 27, .ref p]) O1.frz nt
        have s2 := O1.gup
        have s3 := O2.gup
        rw [List.length_map] at hS
        refine q _ _ t p us' rows 27 (s.trans (s2.trans s3)) O2.frz (.inl (.inl upd_same)) (s3.seq (.inl (.inl upd_same))) (hR.up (s2.trans s3)) (spok_lt hS fun i j hi hj => ?_)
        have h1 := ho _ (klt_at hi (.num 0))
        have h2 := ho _ (klt_at hj (.num 0))
        unfold tlt klt
        have g : ∀ i, (ks.map txtOf).getD i ⟨#[]⟩ = txtOf (ks.getD i (.num 0)) := fun i => by
          simp only [List.getD, List.getElem?_map]
          cases ks[i]? <;> rfl
        rw [g i, g j]
        revert h1 h2
        cases ks.getD i (.num 0) <;> cases ks.getD j (.num 0) <;> intro h1 h2 <;> first | exact Iff.rfl | exact False.elim h1 | exact False.elim h2
end
end Fs

set_option maxHeartbeats 4000000
/-! Putting by one column: the buckets, one behind another. -/
namespace Fs
open PySem PySem.Spec PyProof.Rows L2
theorem split_by {α : Type} : ∀ (cs : List Nat) (l : List α), l.length = cs.sum → ∃ Ls : List (List α), Ls.flatten = l ∧ Ls.map List.length = cs
  | [], l, h => ⟨[], (List.length_eq_zero_iff.mp h).symm, rfl⟩
  | c :: cs, l, h => by
    rw [List.sum_cons] at h
    obtain ⟨Ls, e1, e2⟩ := split_by cs (l.drop c) (by rw [List.length_drop]; omega)
    refine ⟨l.take c :: Ls, by rw [List.flatten_cons, e1, List.take_append_drop], ?_⟩
    rw [List.map_cons, e2, List.length_take]
    congr 1
    omega
theorem flatten_set {α : Type} : ∀ (Ls : List (List α)) (f j : Nat) (s : List α) (x : α), Ls[f]? = some s → j < s.length → Ls.flatten.set (((Ls.map List.length).take f).sum + j) x = (Ls.set f (s.set j x)).flatten
  | [], f, j, s, x, h, _ => by cases h
  | L :: Ls, 0, j, s, x, h, hj => by
    obtain rfl : L = s := Option.some.inj h
    rw [List.take_zero, List.sum_nil, Nat.zero_add, List.flatten_cons, List.set_append_left _ _ hj]
    rfl
  | L :: Ls, f + 1, j, s, x, h, hj => by
    have h : Ls[f]? = some s := h
    rw [List.map_cons, List.take_succ_cons, List.sum_cons, List.flatten_cons, List.set_append_right _ _ (by omega), show L.length + (List.take f (List.map List.length Ls)).sum + j - L.length = (List.take f (List.map List.length Ls)).sum + j by omega, flatten_set Ls f j s x h hj]
    rfl
section
variable {fig : Nat → Nat} {b : Nat} {ps : List Nat}
def bk (fig : Nat → Nat) (ps : List Nat) (f : Nat) : List Nat := ps.filter fun p => fig p == f
def bkt (fig : Nat → Nat) (b : Nat) (ps : List Nat) : List Nat := ((List.range b).map (bk fig ps)).flatten
theorem bk_len (fig : Nat → Nat) (ps : List Nat) (f : Nat) : (bk fig ps f).length = (ps.map fig).count f := by
  unfold bk
  rw [List.count, List.countP_map, List.countP_eq_length_filter]
  rfl
theorem bk_snoc (p f : Nat) : bk fig (ps ++ [p]) f = bk fig ps f ++ if fig p = f then [p] else [] := by
  unfold bk
  rw [List.filter_append]
  congr 1
  by_cases h : fig p = f
  · rw [if_pos h, List.filter_cons_of_pos (by simp [h])]; rfl
  · rw [if_neg h, List.filter_cons_of_neg (by simp [h])]; rfl
theorem cnt_sum : ∀ (b : Nat) (ns : List Nat), (∀ n ∈ ns, n < b) → (cnt ns b).sum = ns.length := by
  intro b ns
  induction ns with
  | nil => intro _; rw [cnt_nil]; simp
  | cons n ns ih =>
    intro h
    have hn := h n (List.mem_cons_self ..)
    have e := ih fun m hm => h m (List.mem_cons_of_mem _ hm)
    have key : ∀ b, ((List.range b).map fun j => (n :: ns).count j).sum = ((List.range b).map fun j => ns.count j).sum + if n < b then 1 else 0 := by
      intro b
      induction b with
      | zero => simp
      | succ b ih =>
        rw [List.range_succ, List.map_append, List.sum_append, List.map_append, List.sum_append, ih]
        simp only [List.map_cons, List.map_nil, List.sum_cons, List.sum_nil, List.count_cons]
        simp only [beq_iff_eq]
        split <;> split <;> split <;> omega
    unfold cnt at e ⊢
    rw [key b, e, if_pos hn]
    simp
/-- spots behind the first i -/
def spo (fig : Nat → Nat) (b : Nat) (ps : List Nat) (i : Nat) : List Nat := (List.range b).map fun f => ((cnt (ps.map fig) b).take f).sum + (bk fig (ps.take i) f).length
theorem spo0 : begs (cnt (ps.map fig) b) = spo fig b ps 0 := by
  unfold begs spo
  rw [cnt_len]
  apply List.map_congr_left
  intro f _
  simp [bk]
theorem spo_at {i f : Nat} (h : f < b) : (spo fig b ps i)[f]? = some (((cnt (ps.map fig) b).take f).sum + (bk fig (ps.take i) f).length) := by
  simp [spo, h]
theorem spo_step {i p : Nat} (e : ps[i]? = some p) (h : fig p < b) : (spo fig b ps i).set (fig p) (((cnt (ps.map fig) b).take (fig p)).sum + (bk fig (ps.take i) (fig p)).length + 1) = spo fig b ps (i + 1) := by
  apply List.ext_getElem
  · simp [spo]
  · intro j h1 h2
    have hj : j < b := by simpa [spo] using h2
    rw [List.getElem_set]
    by_cases q : fig p = j
    · subst q
      rw [if_pos rfl]
      simp only [spo, List.getElem_map, List.getElem_range]
      rw [take_snoc e, bk_snoc, if_pos rfl, List.length_append]
      simp
      omega
    · rw [if_neg q]
      simp only [spo, List.getElem_map, List.getElem_range]
      rw [take_snoc e, bk_snoc, if_neg q]
      simp
def PutInv (fig : Nat → Nat) (b : Nat) (ps : List Nat) (i : Nat) (made : List Nat) : Prop :=
  ∃ Ls : List (List Nat), made = Ls.flatten ∧ Ls.map List.length = cnt (ps.map fig) b ∧ ∀ f s, Ls[f]? = some s → ∃ rest, s = bk fig (ps.take i) f ++ rest
theorem put0 (h : ∀ p ∈ ps, fig p < b) : PutInv fig b ps 0 ps := by
  obtain ⟨Ls, e1, e2⟩ := split_by (cnt (ps.map fig) b) ps (by
    rw [cnt_sum b _ (fun n hn => by obtain ⟨p, hp, rfl⟩ := List.mem_map.mp hn; exact h p hp), List.length_map])
  exact ⟨Ls, e1.symm, e2, fun f s _ => ⟨s, rfl⟩⟩
theorem put_len {i : Nat} {made : List Nat} (h : ∀ p ∈ ps, fig p < b) (I : PutInv fig b ps i made) : made.length = ps.length := by
  obtain ⟨Ls, rfl, e, _⟩ := I
  rw [List.length_flatten, e, cnt_sum b _ (fun n hn => by obtain ⟨p, hp, rfl⟩ := List.mem_map.mp hn; exact h p hp), List.length_map]
theorem put_step {i p : Nat} {made : List Nat} (e : ps[i]? = some p) (h : ∀ p ∈ ps, fig p < b) (I : PutInv fig b ps i made) :
    ((cnt (ps.map fig) b).take (fig p)).sum + (bk fig (ps.take i) (fig p)).length < made.length ∧ PutInv fig b ps (i + 1) (made.set (((cnt (ps.map fig) b).take (fig p)).sum + (bk fig (ps.take i) (fig p)).length) p) := by
  obtain ⟨Ls, e1, e2, e3⟩ := I
  have hf := h p (List.mem_of_getElem? e)
  have hL : Ls.length = b := by rw [← List.length_map (f := List.length) (as := Ls), e2, cnt_len]
  have hs : Ls[fig p]? = some Ls[fig p] := List.getElem?_eq_getElem (by omega)
  obtain ⟨rest, er⟩ := e3 _ _ hs
  have hlen : Ls[fig p].length = (ps.map fig).count (fig p) := by
    have z : (Ls.map List.length)[fig p]? = (cnt (ps.map fig) b)[fig p]? := by rw [e2]
    rw [List.getElem?_map, hs] at z
    simp [cnt, hf] at z
    exact z
  have hj : (bk fig (ps.take i) (fig p)).length < Ls[fig p].length := by
    rw [hlen, bk_len]
    have z : ps.map fig = (ps.take i).map fig ++ (fig p :: (ps.drop (i + 1)).map fig) := by
      obtain ⟨hi, e'⟩ := List.getElem?_eq_some_iff.mp e
      rw [← List.map_cons, ← List.map_append, ← e', List.getElem_cons_drop, List.take_append_drop]
    rw [z, List.count_append, List.count_cons_self]
    omega
  have fs := flatten_set Ls (fig p) (bk fig (ps.take i) (fig p)).length _ p hs hj
  rw [e2] at fs
  refine ⟨?_, Ls.set (fig p) (Ls[fig p].set (bk fig (ps.take i) (fig p)).length p), by rw [e1]; exact fs, ?_, fun f s hfs => ?_⟩
  · have m : made.length = (cnt (ps.map fig) b).sum := by rw [e1, List.length_flatten, e2]
    have z : (cnt (ps.map fig) b).sum = ((cnt (ps.map fig) b).take (fig p)).sum + ((cnt (ps.map fig) b).drop (fig p)).sum := by rw [← List.sum_append, List.take_append_drop]
    have y : (cnt (ps.map fig) b).drop (fig p) = Ls[fig p].length :: (cnt (ps.map fig) b).drop (fig p + 1) := by
      rw [List.drop_eq_getElem_cons (by rw [cnt_len]; exact hf)]
      congr 1
      rw [hlen]
      simp [cnt]
    rw [y, List.sum_cons] at z
    omega
  · rw [← e2]
    apply List.ext_getElem
    · simp
    · intro j h1 h2
      simp only [List.getElem_map, List.getElem_set]
      split
      · rename_i q; subst q; simp
      · rfl
  · rw [List.getElem?_set] at hfs
    by_cases q : fig p = f
    · subst q
      rw [if_pos rfl, if_pos (by omega)] at hfs
      have hfs := Option.some.inj hfs
      cases rest with
      | nil => rw [er, List.append_nil] at hj; omega
      | cons d r =>
        refine ⟨r, ?_⟩
        rw [← hfs, take_snoc e, bk_snoc, if_pos rfl]
        generalize Ls[fig p] = S at er
        rw [er, List.set_append_right _ _ (Nat.le_refl _), Nat.sub_self]
        simp
    · rw [if_neg q] at hfs
      obtain ⟨rest, e4⟩ := e3 f s hfs
      exact ⟨rest, by rw [take_snoc e, bk_snoc, if_neg q, List.append_nil]; exact e4⟩
theorem put_end {made : List Nat} (I : PutInv fig b ps ps.length made) : made = bkt fig b ps := by
  obtain ⟨Ls, e1, e2, e3⟩ := I
  rw [e1]
  unfold bkt
  congr 1
  have hL : Ls.length = b := by rw [← List.length_map (f := List.length) (as := Ls), e2, cnt_len]
  apply List.ext_getElem
  · simp [hL]
  · intro f h1 h2
    have hs : Ls[f]? = some Ls[f] := List.getElem?_eq_getElem h1
    obtain ⟨rest, er⟩ := e3 _ _ hs
    have hlen : Ls[f].length = (ps.map fig).count f := by
      have z : (Ls.map List.length)[f]? = (cnt (ps.map fig) b)[f]? := by rw [e2]
      rw [List.getElem?_map, hs] at z
      simp [cnt, hL ▸ h1] at z
      exact z
    rw [List.take_length] at er
    rw [er, List.length_append, bk_len] at hlen
    rw [er, List.length_eq_zero_iff.mp (by omega : rest.length = 0)]
    simp
theorem mem_bk {p f : Nat} : p ∈ bk fig ps f ↔ p ∈ ps ∧ fig p = f := by simp [bk]
theorem mem_bkt {p : Nat} (h : ∀ p ∈ ps, fig p < b) : p ∈ bkt fig b ps ↔ p ∈ ps := by
  unfold bkt
  constructor
  · intro q
    obtain ⟨l, h1, h2⟩ := List.mem_flatten.mp q
    obtain ⟨f, _, rfl⟩ := List.mem_map.mp h1
    exact (mem_bk.mp h2).1
  · intro q
    exact List.mem_flatten.mpr ⟨_, List.mem_map.mpr ⟨fig p, List.mem_range.mpr (h p q), rfl⟩, mem_bk.mpr ⟨q, rfl⟩⟩
theorem bkt_nodup (hn : ps.Nodup) : (bkt fig b ps).Nodup := by
  unfold bkt List.Nodup
  rw [List.pairwise_flatten]
  refine ⟨fun l hl => ?_, ?_⟩
  · obtain ⟨f, _, rfl⟩ := List.mem_map.mp hl
    exact List.Pairwise.filter _ hn
  · rw [List.pairwise_map]
    refine List.pairwise_lt_range.imp fun {f g} hfg x hx y hy e => ?_
    have := (mem_bk.mp hx).2
    have := (mem_bk.mp hy).2
    subst e
    omega
theorem bkt_perm (hn : ps.Nodup) (h : ∀ p ∈ ps, fig p < b) : (bkt fig b ps).Perm ps := (List.perm_ext_iff_of_nodup (bkt_nodup hn) hn).mpr fun _ => mem_bkt h
theorem bkt_pair {R : Nat → Nat → Prop} (h1 : ∀ p q, p ∈ ps → q ∈ ps → fig p < fig q → R p q) (h2 : (ps.Pairwise fun p q => fig p = fig q → R p q)) : (bkt fig b ps).Pairwise R := by
  unfold bkt
  rw [List.pairwise_flatten]
  refine ⟨fun l hl => ?_, ?_⟩
  · obtain ⟨f, _, rfl⟩ := List.mem_map.mp hl
    refine (List.Pairwise.filter _ h2).imp_of_mem fun {p q} hp hq g => g ?_
    rw [(mem_bk.mp hp).2, (mem_bk.mp hq).2]
  · rw [List.pairwise_map]
    refine List.pairwise_lt_range.imp fun {f g} hfg x hx y hy => ?_
    obtain ⟨x1, x2⟩ := mem_bk.mp hx
    obtain ⟨y1, y2⟩ := mem_bk.mp hy
    exact h1 x y x1 y1 (by omega)
/-- where all show the same figure nothing is moved -/
theorem bkt_same {f : Nat} (hf : f < b) (h : ∀ p ∈ ps, fig p = f) : bkt fig b ps = ps := by
  have e : (List.range b).map (bk fig ps) = (List.range b).map fun g => if g = f then ps else [] := by
    apply List.map_congr_left
    intro g _
    unfold bk
    by_cases q : g = f
    · rw [if_pos q]
      exact List.filter_eq_self.mpr fun p hp => by simp [h p hp, q]
    · rw [if_neg q]
      exact List.filter_eq_nil_iff.mpr fun p hp => by simp [h p hp]; exact fun e => q e.symm
  unfold bkt
  rw [e]
  have : ∀ n, f < n → ((List.range n).map fun g => if g = f then ps else []).flatten = ps := by
    intro n
    induction n with
    | zero => intro h; omega
    | succ n ih =>
      intro hfn
      rw [List.range_succ, List.map_append, List.flatten_append]
      by_cases q : n = f
      · subst q
        have z : ((List.range n).map fun g => if g = n then ps else []).flatten = [] := by
          apply List.flatten_eq_nil_iff.mpr
          intro l hl
          obtain ⟨g, hg, rfl⟩ := List.mem_map.mp hl
          rw [if_neg (by have := List.mem_range.mp hg; omega)]
        rw [z]
        simp
      · rw [ih (by omega)]
        simp [q]
  exact this b hf
/-- the greatest of the counts is all: one figure -/
theorem all_same {f : Nat} (h : (ps.map fig).count f = ps.length) : ∀ p ∈ ps, fig p = f := by
  intro p hp
  have := List.count_eq_length.mp (by rw [h, List.length_map] : (ps.map fig).count f = (ps.map fig).length) (fig p) (List.mem_map.mpr ⟨p, hp, rfl⟩)
  exact this.symm
end
end Fs

set_option maxHeartbeats 4000000
/-! The order: one alone; by the last column first. -/
namespace Fs
open PySem PySem.Spec PyProof.Rows L2
section
variable {lt lt' : Nat → Nat → Prop} {n b c w : Nat} {o : List Nat} {rows : List (List Nat)}
theorem IsOrd.nodup (h : IsOrd lt n o) : o.Nodup := h.1.nodup_iff.mpr List.nodup_range
theorem IsOrd.small (h : IsOrd lt n o) {p : Nat} (hp : p ∈ o) : p < n := List.mem_range.mp (h.1.mem_iff.mp hp)
theorem IsOrd.len (h : IsOrd lt n o) : o.length = n := by rw [h.1.length_eq, List.length_range]
theorem IsOrd.imp (h : IsOrd lt n o) (f : ∀ p q, p < n → q < n → bef lt p q → bef lt' p q) : IsOrd lt' n o := ⟨h.1, h.2.imp_of_mem fun {p q} hp hq g => f p q (h.small hp) (h.small hq) g⟩
theorem IsOrd.iff (h : IsOrd lt n o) (f : ∀ p q, p < n → q < n → (lt p q ↔ lt' p q)) : IsOrd lt' n o := h.imp fun p q hp hq g => by
  rcases g with g | ⟨g, g'⟩
  · exact .inl ((f p q hp hq).mp g)
  · exact .inr ⟨fun z => g ((f q p hq hp).mpr z), g'⟩
theorem IsOrd.one {o' : List Nat} (as : ∀ p q, lt p q → ¬ lt q p) (h : IsOrd lt n o) (h' : IsOrd lt n o') : o = o' := by
  refine List.Perm.eq_of_pairwise (fun p q _ _ g g' => ?_) h.2 h'.2 (h.1.trans h'.1.symm)
  rcases g with g | ⟨g, g2⟩
  · rcases g' with g' | ⟨g', _⟩
    · exact absurd g' (as _ _ g)
    · exact absurd g g'
  · rcases g' with g' | ⟨g', g3⟩
    · exact absurd g' g
    · omega
theorem rlt_as (p q : Nat) (h : rlt rows p q) : ¬ rlt rows q p := fun g => List.lt_irrefl _ (List.lt_trans h g)
def sfx (c : Nat) (rows : List (List Nat)) : List (List Nat) := rows.map (List.drop c)
def fg (rows : List (List Nat)) (c p : Nat) : Nat := (rows.getD p []).getD c 0
theorem getD_mem {p : Nat} (h : p < rows.length) : rows.getD p [] ∈ rows := by simp [List.getD, h]
theorem sfx_at {p : Nat} (h : p < rows.length) : (sfx c rows).getD p [] = (rows.getD p []).drop c := by simp [sfx, List.getD, h]
theorem drop_fg {p : Nat} (hw : ∀ r ∈ rows, r.length = w) (hc : c < w) (h : p < rows.length) : (rows.getD p []).drop c = fg rows c p :: (rows.getD p []).drop (c + 1) := by
  have z : ∀ r : List Nat, r.length = w → r.drop c = r.getD c 0 :: r.drop (c + 1) := fun r hr => by
    rw [List.drop_eq_getElem_cons (by omega)]
    simp [List.getD, hr, hc]
  exact z _ (hw _ (getD_mem h))
theorem rlt_fg {p q : Nat} (hw : ∀ r ∈ rows, r.length = w) (hc : c < w) (hp : p < rows.length) (hq : q < rows.length) : rlt (sfx c rows) p q ↔ fg rows c p < fg rows c q ∨ (fg rows c p = fg rows c q ∧ rlt (sfx (c + 1) rows) p q) := by
  unfold rlt
  rw [sfx_at hp, sfx_at hq, sfx_at hp, sfx_at hq, drop_fg hw hc hp, drop_fg hw hc hq, cons_lt]
theorem last0 (hw : ∀ r ∈ rows, r.length = w) : IsOrd (rlt (sfx w rows)) rows.length (List.range rows.length) := by
  refine ⟨List.Perm.refl _, List.pairwise_lt_range.imp_of_mem fun {p q} hp hq h => .inr ⟨?_, h⟩⟩
  unfold rlt
  rw [sfx_at (List.mem_range.mp hq), List.drop_eq_nil_of_le (Nat.le_of_eq (hw _ (getD_mem (List.mem_range.mp hq)))), sfx_at (List.mem_range.mp hp), List.drop_eq_nil_of_le (Nat.le_of_eq (hw _ (getD_mem (List.mem_range.mp hp))))]
  exact List.lt_irrefl _
theorem last_end : sfx 0 rows = rows := by
  unfold sfx
  rw [show List.drop 0 = (id : List Nat → List Nat) from rfl]
  simp
theorem last_step (hw : ∀ r ∈ rows, r.length = w) (hc : c < w) (hb : ∀ p, p < rows.length → fg rows c p < b) (h : IsOrd (rlt (sfx (c + 1) rows)) rows.length o) : IsOrd (rlt (sfx c rows)) rows.length (bkt (fg rows c) b o) := by
  refine ⟨(bkt_perm h.nodup fun p hp => hb p (h.small hp)).trans h.1, bkt_pair (fun p q hp hq g => .inl ((rlt_fg hw hc (h.small hp) (h.small hq)).mpr (.inl g))) (h.2.imp_of_mem fun {p q} hp hq g e => ?_)⟩
  rcases g with g | ⟨g, g'⟩
  · exact .inl ((rlt_fg hw hc (h.small hp) (h.small hq)).mpr (.inr ⟨e, g⟩))
  · refine .inr ⟨fun z => ?_, g'⟩
    rcases (rlt_fg hw hc (h.small hq) (h.small hp)).mp z with z | ⟨_, z⟩
    · omega
    · exact g z
theorem fg_small {p : Nat} (hw : ∀ r ∈ rows, r.length = w) (hc : c < w) (hx : ∀ r ∈ rows, ∀ x ∈ r, x < b) (hp : p < rows.length) : fg rows c p < b := by
  have z := hw _ (getD_mem hp)
  have y := hx _ (getD_mem hp)
  unfold fg
  generalize rows.getD p [] = r at *
  refine y _ ?_
  simp [List.getD, z, hc]
theorem fg_at {p : Nat} {r : List Nat} (hr : rows[p]? = some r) (hw : r.length = w) (hc : c < w) : r[c]? = some (fg rows c p) := by
  unfold fg
  simp [List.getD, hr, hw, hc]
end
/-- some figure's count is the greatest -/
theorem max_cnt {ns : List Nat} {b : Nat} (h : ∀ n ∈ ns, n < b) {m : Int} (hm : m ∈ (cnt ns b).map fun n : Nat => (n : Int)) : ∃ f, f < b ∧ m = (ns.count f : Nat) := by
  obtain ⟨k, hk, rfl⟩ := List.mem_map.mp hm
  unfold cnt at hk
  obtain ⟨f, hf, rfl⟩ := List.mem_map.mp hk
  exact ⟨f, List.mem_range.mp hf, rfl⟩
end Fs

set_option maxHeartbeats 4000000
/-! Putting in order by the last column first. -/
namespace Fs
open PySem PySem.Spec PyProof.Rows L2
theorem rg_nv (n : Nat) : rgV 0 (n : Int) = (List.range n).map nv := by
  unfold rgV
  simp
theorem rg_ok {n : Nat} (h : n ≤ 100000) : RgOk 0 (n : Int) := by
  unfold RgOk
  refine ⟨by omega, by omega, by omega, by omega, ?_⟩
  exact sz (by omega)
theorem two_ok : 2 ≤ sizeLine := sz (by omega)
theorem three_ok : 3 ≤ sizeLine := sz (by omega)
theorem nvs (xs : List Nat) : xs.map nv = (xs.map fun n : Nat => (n : Int)).map V.int := by rw [List.map_map]; rfl
theorem nvf {α : Type} (f : α → Nat) (xs : List α) : xs.map (fun x => nv (f x)) = (xs.map f).map nv := by rw [List.map_map]; rfl
abbrev GL (H : Hp) (a : Addr) (ns : List Nat) : Prop := H a = some (.lst (ns.map nv))
theorem GL.nl {K : PySem.W.Frag} {H : Hp} {a : Addr} {ns : List Nat} (h : GL H a ns) : NL K H a ns := .inl (.inl h)
abbrev RowsOk (b : Nat) (rows : List (List Nat)) : Prop := 2 ≤ b ∧ b ≤ 64 ∧ (∃ w, w ≤ 200 ∧ ∀ r ∈ rows, r.length = w) ∧ (∀ r ∈ rows, ∀ x ∈ r, x < b) ∧ rows.length ≤ 200
theorem SpOk.rows {lt : Nat → Nat → Prop} {b n : Nat} {rows : List (List Nat)} (h : SpOk lt b n rows) (hn : n ≤ 200) : RowsOk b rows := ⟨h.2.1, h.2.2.1, h.2.2.2.1, h.2.2.2.2.1, by rw [h.1]; exact hn⟩
section
variable {P : Program} {w : World} {K : PySem.W.Frag} {mg : Str → Option Value} {base : Heap} {T : TL}
def sp_put_by (K : PySem.W.Frag) (T : TL) : Sp := fun vs H Q _ => ∃ (G : Hp) (l : List (Addr × HO)) (pa sh : Addr) (ps : List Nat) (fig : Nat → Nat) (b : Nat), vs = [.ref pa, .ref sh, nv b] ∧ Own T G H l ∧ NL K G pa ps ∧ NL K G sh (ps.map fig) ∧ b ≤ 1000 ∧ (∀ p ∈ ps, fig p < b) ∧ ps.length ≤ 1000 ∧
  ∀ G' H' p, Same G G' → Own T G' H' ((p, .lst ((bkt fig b ps).map nv)) :: l) → Q (.ref p) H'
theorem sc_put_by : FnScope ["places", "shown", "base", "spots", "made", "place", "figure"] ["places", "shown", "base"] (defScope s_put_by) := ⟨rfl, rfl, rfl, by decide +kernel, rfl, by decide +kernel, by decide +kernel⟩
theorem cal_put_by (t : Ctx K mg base T) : Cal P w K mg base 2 "put_by" ["places", "shown", "base"] (sp_put_by K T) := by
  refine cal_of t.d_put_by t.g_put_by sc_put_by (fun _ _ _ _ _ _ us hl => match us, hl with | [_, _, _], _ => rfl) (fun vs H Q E h => ?_) (fun cdv A outer s H vs Q E hr h => ?_)
  · obtain ⟨G, l, pa, sh, ps, fig, b, rfl, _⟩ := h
    rfl
  · obtain ⟨G, l, pa, sh, ps, fig, b, rfl, O, hp, hs, hb, hf, hn, q⟩ := h
    refine ⟨_, (pss_cons (ps_set (i := 3) sc_put_by.nd rfl (.inl rfl) (pe_cal (cal_begins t) hr (pa_cons (pe_cal (cal_counts t) hr (pa_cons (pv 1) (pa_cons (pv 2) pa_nil))) pa_nil)))
      (pss_cons (ps_set (i := 4) sc_put_by.nd rfl (.inl rfl) (pe_callTy listOf (by rfl) t.list (by decide +kernel) (pa_cons (pv 0) pa_nil)))
      (pss_cons (ps_for PassesOwn.never rfl (pi_zip (by rfl) t.zip (pa_cons (pv 0) (pa_cons (pv 1) pa_nil))) (pg_tup (by rfl) (pgs_cons (pg_name (i := 5) sc_put_by.nd rfl (.inl rfl)) (pgs_cons (pg_name (i := 6) sc_put_by.nd rfl (.inl rfl)) pgs_nil)))
        (pss_cons (ps_asg (pv 5) (pg_sub (pv 4) (pe_ix ixL (pv 3) (pv 6) (fun _ _ => rfl)) set_list))
        (pss_one (ps_augS (pv 3) (pv 6) getL pe_int ip_add set_list))))
      (pss_one (ps_ret (pv 4)))))), ?_⟩
    refine ⟨.ref sh, rfl, nv b, rfl, G, l, sh, ps.map fig, b, rfl, O, hs, hb, fun n h => by obtain ⟨p, h1, rfl⟩ := List.mem_map.mp h; exact hf p h1, fun H1 p1 O1 => ⟨_, l, p1, cnt (ps.map fig) b, rfl, O1.frz, .inl (.inl upd_same), by rw [cnt_len]; exact hb, fun H2 p2 O2 => ?_⟩⟩
    have s1 := O1.gup
    rw [spo0] at O2
    refine ⟨.ref pa, rfl, pa, _, rfl, .inl (O2.seq (s1.seq hp)), fun p3 n3 => ?_⟩
    have O3 := own_new (o := .lst (ps.map nv)) O2 n3
    refine ⟨.ref pa, rfl, .ref sh, rfl, pa, sh, _, _, rfl, O3.seq (s1.seq hp), O3.seq (s1.seq hs), for_it (walk_zip (n := ps.length) (by simp)) (fun i σ H' => ∃ y z G' made, σ = [some (.ref pa), some (.ref sh), some (nv b), some (.ref p2), some (.ref p3), y, z] ∧ Same G G' ∧ Own T G' H' ((p3, .lst (made.map nv)) :: (p2, .lst ((spo fig b ps i).map nv)) :: l) ∧ PutInv fig b ps i made)
      ⟨none, none, _, ps, rfl, s1, O3, put0 hf⟩ (fun i σ H' _ ⟨_, _, G', _, _, s, O4, _⟩ => ⟨O4.seq (s.seq hp), O4.seq (s.seq hs)⟩) (fun i x σ H4 H5 hi ⟨y, z, G', made, e, s, O4, I⟩ hy => ?_) (fun σ H4 ⟨y, z, G', made, e, s, O4, I⟩ => ?_)⟩
    · subst e
      obtain ⟨Tp, x1, x2, rfl, nT, rfl, e1, e2⟩ := hy
      obtain ⟨p, ep, rfl⟩ := map_at e1
      obtain ⟨f, ef, rfl⟩ := map_at e2
      obtain rfl : f = fig p := by
        rw [List.getElem?_map, ep] at ef
        exact (Option.some.inj ef).symm
      have hb2 := hf p (List.mem_of_getElem? ep)
      have O5 := own_new (o := .tup [nv p, nv (fig p)]) O4 nT
      obtain ⟨j1, I2⟩ := put_step ep hf I
      have es := spo_at (fig := fig) (ps := ps) (i := i) hb2
      refine ⟨Tp, _, rfl, .inl (.inl O5.l0), rfl, nv p, _, rfl, nv (fig p), _, rfl, rfl, ?_⟩
      refine ⟨nv p, rfl, .ref p3, rfl, .ref p2, rfl, nv (fig p), rfl, p2, _, _, _, rfl, rfl, .inl (.inl O5.l2), atI_map es, p3, _, _, _, rfl, rfl, O5.l1, by rw [List.length_map]; exact ixN_n j1, ?_⟩
      rw [map_set']
      have O6 := own_set (o' := .lst ((made.set (((cnt (ps.map fig) b).take (fig p)).sum + (bk fig (ps.take i) (fig p)).length) p).map nv)) O5.drop 0 rfl
      refine ⟨.ref p2, rfl, nv (fig p), rfl, p2, _, _, _, rfl, rfl, .inl (.inl O6.l1), atI_map es, _, _, rfl, rfl, p2, _, _, fig p, rfl, rfl, O6.l1, by rw [List.length_map]; simp only [spo, List.length_map, List.length_range]; exact ixN_n hb2, some (nv p), some (nv (fig p)), G', _, rfl, s, ?_, I2⟩
      rw [show V.int ((((cnt (ps.map fig) b).take (fig p)).sum + (bk fig (ps.take i) (fig p)).length : Nat) + 1) = nv (((cnt (ps.map fig) b).take (fig p)).sum + (bk fig (ps.take i) (fig p)).length + 1) from rfl, map_set', spo_step ep hb2]
      exact own_set O6 1 rfl
    · subst e
      rw [put_end I] at O4
      exact ⟨_, rfl, q _ _ _ s (O4.swap.drop)⟩
theorem wid {rows : List (List Nat)} {b : Nat} (h : RowsOk b rows) : ∀ r ∈ rows, r.length = (rows.headD []).length := by
  obtain ⟨_, _, ⟨w, _, hw⟩, _⟩ := h
  cases rows with
  | nil => intro r h; cases h
  | cons a l => intro r hr; rw [hw r hr]; exact (hw a (List.mem_cons_self ..)).symm
theorem wid_le {rows : List (List Nat)} {b : Nat} (h : RowsOk b rows) : (rows.headD []).length ≤ 200 := by
  obtain ⟨_, _, ⟨w, h2, hw⟩, _⟩ := h
  cases rows with
  | nil => exact Nat.zero_le _
  | cons a l => exact Nat.le_trans (Nat.le_of_eq (hw a (List.mem_cons_self ..))) h2
theorem row_at {G H : Hp} {us : List V} {rows : List (List Nat)} (he : Rows K G us rows) (s : Same G H) {p : Nat} (hp : p < rows.length) : ∃ t, us[p]? = some (.ref t) ∧ SqT K H t ((rows.getD p []).map nv) ∧ rows[p]? = some (rows.getD p []) := by
  have e : rows[p]? = some (rows.getD p []) := by simp [List.getD, hp]
  obtain ⟨v, e2, t, rfl, ht⟩ := he.at_x e
  exact ⟨t, e2, Same.tup s ht, e⟩
def sp_from_last (K : PySem.W.Frag) (T : TL) : Sp := fun vs H Q _ => ∃ (G : Hp) (l : List (Addr × HO)) (a : Addr) (us : List V) (rows : List (List Nat)) (b : Nat), vs = [.ref a, nv b] ∧ Own T G H l ∧ SqL K G a us ∧ Rows K G us rows ∧ RowsOk b rows ∧
  ∀ G' H' p ol sl ss o, Same G G' → Own T G' H' l → SqT K G' p [.ref ol, .ref sl] → GL G' ol o → SqL K G' sl ss → ss.length ≤ 1000 → IsOrd (rlt rows) rows.length o → Q (.ref p) H'
theorem sc_from_last : FnScope ["rows", "base", "order", "steps", "column", "shown", "place"] ["rows", "base"] (defScope s_from_last) := ⟨rfl, rfl, rfl, by decide +kernel, rfl, by decide +kernel, by decide +kernel⟩
theorem cal_from_last (t : Ctx K mg base T) : Cal P w K mg base 3 "from_last" ["rows", "base"] (sp_from_last K T) := by
  refine cal_of t.d_from_last t.g_from_last sc_from_last (fun _ _ _ _ _ _ us hl => match us, hl with | [_, _], _ => rfl) (fun vs H Q E h => ?_) (fun cdv A outer s H vs Q E hr h => ?_)
  · obtain ⟨G, l, a, us, rows, b, rfl, _⟩ := h
    rfl
  · obtain ⟨G, l, a, us, rows, b, rfl, O, ha, he, ok, q⟩ := h
    refine ⟨_, (pss_cons (ps_set (i := 2) sc_from_last.nd rfl (.inl rfl) (pe_listRg rfl (by rfl) t.list (prg_1 (by rfl) t.range (pe_callB lenK (by rfl) t.len (by decide +kernel) (pa_cons (pv 0) pa_nil)))))
      (pss_cons (ps_set (i := 3) sc_from_last.nd rfl (.inl rfl) (pe_lst pa_nil))
      (pss_cons (ps_for PassesOwn.never rfl (pi_reversed (by rfl) t.reversed (pa_cons (pe_listRg rfl (by rfl) t.list (prg_1 (by rfl) t.range (pe_cal (cal_width_of t) hr (pa_cons (pv 0) pa_nil)))) pa_nil)) (pg_name (i := 4) sc_from_last.nd rfl (.inr rfl))
        (pss_cons (ps_setLc (i := 5) (own := [("place", 6)]) (g := gName 6) (by rfl) sc_from_last.nd rfl rfl (sw_true rfl rfl rfl (by decide +kernel)) (piL (pv 2)) (blkOk_by (own := [("place", 6)]) (N := ["rows", "base", "order", "steps", "column", "shown", "place"]) (sc := defScope s_from_last) (by decide +kernel)) (fun _ _ _ _ _ => (pg_name (i := 6) sc_from_last.nd rfl (.inl rfl))) (fun _ _ _ _ _ => pts_nil) (fun _ _ _ _ _ => (pe_ix ixT (pe_ix ixL (pv 0) (pv 6) (fun _ _ => rfl)) (pv 4) (fun _ _ => rfl))))
        (pss_one (ps_if (pt_cmpR op_lt (pe_callB (maxK rfl) (by rfl) t.max_ (by decide +kernel) (pa_cons (pe_cal (cal_counts t) hr (pa_cons (pv 5) (pa_cons (pv 1) pa_nil))) pa_nil)) (pe_callB lenK (by rfl) t.len (by decide +kernel) (pa_cons (pv 0) pa_nil)) (nomark _))
          (pss_cons (ps_set (i := 2) sc_from_last.nd rfl (.inl rfl) (pe_cal (cal_put_by t) hr (pa_cons (pv 2) (pa_cons (pv 5) (pa_cons (pv 1) pa_nil)))))
          (pss_one (ps_expr (bmK PySem.F.plainAttrs_list PySem.F.slot_list_append PySem.F.type_list_append mt_append (pv 3) (pa_cons (pe_tup (pa_cons (pv 4) (pa_cons (pe_callTy listOf (by rfl) t.list (by decide +kernel) (pa_cons (pv 2) pa_nil)) pa_nil))) pa_nil)))))
          pss_nil))))
      (pss_one (ps_ret (pe_tup (pa_cons (pv 2) (pa_cons (pv 3) pa_nil)))))))), ?_⟩
    have hW := wid ok
    have hW2 := wid_le ok
    obtain ⟨hb, hb2, _, hx, hn⟩ := ok
    generalize hWe : (rows.headD []).length = W at hW hW2
    have hl : us.length = rows.length := he.1
    refine ⟨.ref a, rfl, a, us, rfl, .inl (O.seq ha), _, rfl, rg_ok (by omega), fun p0 n0 => ?_⟩
    rw [rg_nv, hl]
    have O1 := own_new (o := .lst ((List.range rows.length).map nv)) O n0
    have s1 := O1.gup
    refine ⟨by decide, fun p1 n1 => ?_⟩
    have O2 := own_new (o := .lst []) O1.frz n1
    refine ⟨.ref a, rfl, a, us, rows, rfl, O2.seq (s1.seq ha), he.up (s1.trans O2.sub), _, rfl, rg_ok (by omega), fun p2 n2 => ?_⟩
    rw [rg_nv, hWe]
    have O3 := own_new (o := .lst ((List.range W).map nv)) O2 n2
    have s3 := O3.gup
    have O4 := O3.frz
    have c0 : NL K (upd (upd G p0 (.lst ((List.range rows.length).map nv))) p2 (.lst ((List.range W).map nv))) p2 (List.range W) := .inl (.inl upd_same)
    refine ⟨p2, _, rfl, .inl (.inl upd_same), for_it walk_rev (fun i σ H' => ∃ y4 y5 y6 G' op o ss, σ = [some (.ref a), some (nv b), some (.ref op), some (.ref p1), y4, y5, y6] ∧ Same (upd (upd G p0 (.lst ((List.range rows.length).map nv))) p2 (.lst ((List.range W).map nv))) G' ∧ Own T G' H' ((p1, .lst ss) :: l) ∧ GL G' op o ∧ IsOrd (rlt (sfx (W - i) rows)) rows.length o ∧ ss.length ≤ i)
      ⟨none, none, none, _, p0, _, [], rfl, Same.refl _, O4, s3 _ _ upd_same, last0 hW, Nat.le_refl _⟩ (fun i σ H' _ ⟨_, _, _, G', _, _, _, _, s, O5, _⟩ => O5.seq (s.seq c0)) (fun i x σ H5 H6 hi ⟨y4, y5, y6, G', op, o, ss, e, s, O5, ho, hI, hss⟩ hy => ?_) (fun σ H5 ⟨y4, y5, y6, G', op, o, ss, e, s, O5, ho, hI, hss⟩ => ?_)⟩
    · subst e
      obtain ⟨rfl, hy⟩ := hy
      rw [List.length_map, List.length_range] at hy hi
      have ho' := ho.nl (K := K)
      obtain ⟨c, ec, rfl⟩ := map_at hy
      obtain rfl : c = W - 1 - i := by
        rw [List.getElem?_range (by omega)] at ec
        exact (Option.some.inj ec).symm
      have hc : W - 1 - i < W := by omega
      have hc1 : W - i = W - 1 - i + 1 := by omega
      rw [hc1] at hI
      generalize W - 1 - i = c at hc hI hc1
      have sG := (s1.trans s3).trans s
      refine ⟨.ref op, rfl, op, rfl, ⟨_, O5.seq ho'⟩, fun D nD => lc_val (ys := o) walk_list O5 nD (by simp) (by rw [List.length_map, hI.len]; omega) (fun p => nv (fg rows c p)) (fun H' s' => s'.seq ho') (fun j x p H7 H8 acc Qc hj ep O6 hy hQ => ?_) (fun H7 O6 => ?_)⟩
      · obtain ⟨rfl, hy⟩ := hy
        obtain ⟨p', ep', rfl⟩ := map_at hy
        obtain rfl : p' = p := Option.some.inj (ep'.symm.trans ep)
        have hp := hI.small (List.mem_of_getElem? ep)
        obtain ⟨t, et, ht, er⟩ := row_at he (sG.trans O6.sub) hp
        exact ⟨rfl, .ref a, rfl, nv p', rfl, a, us, _, _, rfl, rfl, O6.seq (sG.seq ha), atI_v et, nv c, rfl, t, _, _, _, rfl, rfl, ht, atI_map (fg_at er (hW _ (List.mem_of_getElem? er)) hc), hQ _ O6⟩
      · rw [nvf] at O6
        have s6 := O6.gup
        have O7 := O6.frz
        have hs : NL K (upd G' D (.lst ((o.map (fg rows c)).map nv))) D (o.map (fg rows c)) := .inl (.inl upd_same)
        generalize upd G' D (.lst ((o.map (fg rows c)).map nv)) = G7 at s6 O7 hs
        have hf : ∀ p, p < rows.length → fg rows c p < b := fun p hp => fg_small hW hc hx hp
        refine ⟨.ref D, rfl, nv b, rfl, G7, _, D, _, b, rfl, O7, hs, by omega, fun n h => by obtain ⟨p, h1, rfl⟩ := List.mem_map.mp h; exact hf p (hI.small h1), fun H8 p8 O8 => ?_⟩
        refine ⟨p8, (cnt (o.map (fg rows c)) b).map fun n : Nat => (n : Int), rfl, .inl (.inl (by rw [O8.l0, nvs])), by rw [List.length_map, cnt_len]; omega, fun m hm hmax => ?_⟩
        refine ⟨.ref a, rfl, a, us, rfl, .inl (O8.seq (s6.seq (sG.seq ha))), _, _, rfl, rfl, _, rfl, ite2 (fun h => ?_) (fun h => ?_)⟩
        · refine ⟨.ref op, rfl, .ref D, rfl, nv b, rfl, G7, _, op, D, o, fg rows c, b, rfl, O8.drop, s6.seq ho', hs, by omega, fun p hp => hf p (hI.small hp), by rw [hI.len]; omega, fun G9 H9 p9 s9 O9 => ?_⟩
          have O10 := O9.frz
          have s10 := O9.gup
          refine ⟨.ref p1, rfl, .inl ⟨rfl, _, .inl (.inl O9.l1)⟩, nv c, rfl, .ref p9, rfl, p9, _, rfl, .inl (.inl (.inl O9.l0)), fun p11 n11 => ?_⟩
          have O11 := own_new (o := .lst ((bkt (fg rows c) b o).map nv)) O10 n11
          refine ⟨two_ok, fun p12 n12 => ?_⟩
          have O12 := own_new (o := .tup [nv c, .ref p11]) O11.drop n12
          refine ⟨p1, _, _, rfl, rfl, O12.l1, sz' (by omega), some (nv c), some (.ref D), y6, _, p9, _, _, rfl, ((s.trans s6).trans s9).trans s10, own_set O12.drop 0 rfl, upd_same, ?_, by rw [List.length_append]; simp; exact hss⟩
          rw [show W - (i + 1) = c by omega]
          exact last_step hW hc hf hI
        · obtain ⟨f, hf1, hf2⟩ := max_cnt (fun n h => by obtain ⟨p, h1, rfl⟩ := List.mem_map.mp h; exact hf p (hI.small h1)) hm
          have hcount : (o.map (fg rows c)).count f = o.length := by
            have h1 : (o.map (fg rows c)).count f ≤ (o.map (fg rows c)).length := List.count_le_length
            rw [List.length_map] at h1
            have h2 : ¬ (m < (us.length : Int)) := fun z => h (decide_eq_true z)
            have h3 := hI.len
            omega
          refine ⟨some (nv c), some (.ref D), y6, _, op, o, ss, rfl, s.trans s6, O8.drop, s6 _ _ ho, ?_, by omega⟩
          rw [show W - (i + 1) = c by omega]
          have z := last_step hW hc hf hI
          rw [bkt_same hf1 (all_same hcount)] at z
          exact z
    · subst e
      rw [List.length_map, List.length_range, Nat.sub_self, last_end] at hI
      rw [List.length_map, List.length_range] at hss
      refine ⟨.ref op, rfl, .ref p1, rfl, two_ok, fun p np => ?_⟩
      have O6 := own_new (o := .tup [.ref op, .ref p1]) O5.frz np
      have s5 := O5.gup
      have s6 := O6.gup
      exact q _ _ p op p1 ss o ((((s1.trans s3).trans s).trans s5).trans s6) O6.frz (.inl (.inl upd_same)) (s6 _ _ (s5 _ _ ho)) (s6.seq (.inl (.inl upd_same))) (by omega) hI
end
end Fs

set_option maxHeartbeats 4000000
/-! By the first column first: what is done, and blocks from left to right. -/
namespace Fs
open PySem PySem.Spec PyProof.Rows L2
/-- the parts of a stretch -/
def parts (f c : Nat) : List Nat → List (List Nat)
  | [] => []
  | m :: cs => (if 0 < m then [[f, f + m, c + 1]] else []) ++ parts (f + m) c cs
theorem parts_snoc (c m : Nat) : ∀ (cs : List Nat) (f : Nat), parts f c (cs ++ [m]) = parts f c cs ++ if 0 < m then [[f + cs.sum, f + cs.sum + m, c + 1]] else []
  | [], f => by simp [parts]
  | a :: cs, f => by
    show (if 0 < a then [[f, f + a, c + 1]] else []) ++ parts (f + a) c (cs ++ [m]) = ((if 0 < a then [[f, f + a, c + 1]] else []) ++ parts (f + a) c cs) ++ _
    rw [parts_snoc c m cs (f + a), List.sum_cons, List.append_assoc, Nat.add_assoc f a]
abbrev Blk := List Nat × Nat
def stk (f : Nat) : List Blk → List (List Nat)
  | [] => []
  | B :: Bs => [f, f + B.1.length, B.2] :: stk (f + B.1.length) Bs
theorem stk_app : ∀ (As : List Blk) (f : Nat) (Bs : List Blk), stk f (As ++ Bs) = stk f As ++ stk (f + (As.map Prod.fst).flatten.length) Bs
  | [], f, Bs => by simp [stk]
  | A :: As, f, Bs => by
    show _ :: stk (f + A.1.length) (As ++ Bs) = (_ :: stk (f + A.1.length) As) ++ _
    rw [stk_app As, List.map_cons, List.flatten_cons, List.length_append, List.cons_append, Nat.add_assoc]
section
variable {rows : List (List Nat)} {w b n c : Nat} {D B : List Nat} {Bs : List Blk}
def kids (fig : Nat → Nat) (b c : Nat) (B : List Nat) : List Blk := ((List.range b).map fun f => (bk fig B f, c + 1)).filter fun A => decide (0 < A.1.length)
theorem flat_filter : ∀ Ls : List Blk, ((Ls.filter fun A => decide (0 < A.1.length)).map Prod.fst).flatten = (Ls.map Prod.fst).flatten
  | [] => rfl
  | L :: Ls => by
    by_cases h : 0 < L.1.length
    · rw [List.filter_cons_of_pos (by simpa using h), List.map_cons, List.flatten_cons, flat_filter Ls, List.map_cons, List.flatten_cons]
    · rw [List.filter_cons_of_neg (by simpa using h), flat_filter Ls, List.map_cons, List.flatten_cons, List.length_eq_zero_iff.mp (by omega : L.1.length = 0), List.nil_append]
theorem kids_flat (fig : Nat → Nat) : ((kids fig b c B).map Prod.fst).flatten = bkt fig b B := by
  unfold kids bkt
  rw [flat_filter, List.map_map]
  rfl
theorem stk_filter (c : Nat) : ∀ (Ls : List (List Nat)) (f : Nat), stk f ((Ls.map fun l => (l, c + 1)).filter fun A => decide (0 < A.1.length)) = parts f c (Ls.map List.length)
  | [], f => rfl
  | L :: Ls, f => by
    rw [List.map_cons, List.map_cons]
    show _ = (if 0 < L.length then [[f, f + L.length, c + 1]] else []) ++ parts (f + L.length) c (Ls.map List.length)
    by_cases h : 0 < L.length
    · rw [List.filter_cons_of_pos (by simpa using h), if_pos h]
      show [f, f + L.length, c + 1] :: stk _ _ = _
      rw [stk_filter c Ls]
      rfl
    · rw [List.filter_cons_of_neg (by simpa using h), if_neg h, stk_filter c Ls, (by omega : L.length = 0)]
      rfl
theorem kids_stk (fig : Nat → Nat) (f : Nat) : stk f (kids fig b c B) = parts f c (cnt (B.map fig) b) := by
  have e : kids fig b c B = (((List.range b).map (bk fig B)).map fun l => (l, c + 1)).filter fun A => decide (0 < A.1.length) := by
    unfold kids
    rw [List.map_map]
    rfl
  rw [e, stk_filter]
  congr 1
  unfold cnt
  rw [List.map_map]
  apply List.map_congr_left
  intro g _
  exact bk_len ..
abbrev row (rows : List (List Nat)) (p : Nat) : List Nat := rows.getD p []
structure FInv (rows : List (List Nat)) (w : Nat) (D : List Nat) (Bs : List Blk) : Prop where
  perm : (D ++ (Bs.map Prod.fst).flatten).Perm (List.range rows.length)
  dp : D.Pairwise (bef (rlt rows))
  db : ∀ x ∈ D, ∀ A ∈ Bs, ∀ y ∈ A.1, bef (rlt rows) x y
  bb : Bs.Pairwise fun A B => ∀ x ∈ A.1, ∀ y ∈ B.1, bef (rlt rows) x y
  bl : ∀ A ∈ Bs, A.1.Pairwise (· < ·) ∧ (∀ x ∈ A.1, ∀ y ∈ A.1, (row rows x).take A.2 = (row rows y).take A.2) ∧ A.2 ≤ w
def mu (w : Nat) (Bs : List Blk) : Nat := (Bs.map fun A => 2 * A.1.length * (w - A.2) + 1).sum
theorem mu_len : ∀ Bs : List Blk, Bs.length ≤ mu w Bs
  | [] => Nat.zero_le _
  | A :: Bs => by
    have := mu_len Bs
    unfold mu at this ⊢
    rw [List.map_cons, List.sum_cons, List.length_cons]
    omega
theorem stk_len : ∀ (Bs : List Blk) (f : Nat), (stk f Bs).length = Bs.length
  | [], f => rfl
  | A :: Bs, f => congrArg (· + 1) (stk_len Bs _)
theorem finv0 : FInv rows w [] [(List.range rows.length, 0)] := by
  refine ⟨by simp, List.Pairwise.nil, (fun x h => nomatch h), List.pairwise_singleton .., fun A hA => ?_⟩
  rw [List.mem_singleton.mp hA]
  exact ⟨List.pairwise_lt_range, fun x _ y _ => by simp, Nat.zero_le _⟩
theorem FInv.small (I : FInv rows w D Bs) {A : Blk} (hA : A ∈ Bs) {x : Nat} (hx : x ∈ A.1) : x < rows.length :=
  List.mem_range.mp (I.perm.mem_iff.mp (List.mem_append_right _ (List.mem_flatten.mpr ⟨_, List.mem_map.mpr ⟨A, hA, rfl⟩, hx⟩)))
/-- a block that's in order by itself is done -/
theorem finv_done {A : Blk} (I : FInv rows w D (A :: Bs)) (h : A.1.Pairwise (bef (rlt rows))) : FInv rows w (D ++ A.1) Bs := by
  refine ⟨by rw [List.append_assoc]; exact I.perm, List.pairwise_append.mpr ⟨I.dp, h, fun x hx y hy => I.db x hx A (List.mem_cons_self ..) y hy⟩, fun x hx C hC y hy => ?_, (List.pairwise_cons.mp I.bb).2, fun C hC => I.bl C (List.mem_cons_of_mem _ hC)⟩
  rcases List.mem_append.mp hx with hx | hx
  · exact I.db x hx C (List.mem_cons_of_mem _ hC) y hy
  · exact (List.pairwise_cons.mp I.bb).1 C hC x hx y hy
theorem pw_small {l : List Nat} {R : Nat → Nat → Prop} (h : l.length < 2) : l.Pairwise R := by
  match l, h with
  | [], _ => exact List.Pairwise.nil
  | [x], _ => exact List.pairwise_singleton ..
  | _ :: _ :: _, h => simp at h; omega
theorem finv_same {A : Blk} (hw : ∀ r ∈ rows, r.length = w) (I : FInv rows w D (A :: Bs)) (e : A.2 = w) : A.1.Pairwise (bef (rlt rows)) := by
  obtain ⟨h1, h2, _⟩ := I.bl A (List.mem_cons_self ..)
  refine h1.imp_of_mem fun {x y} hx hy h => .inr ⟨?_, h⟩
  have z := h2 x hx y hy
  rw [e, List.take_of_length_le (by rw [hw _ (getD_mem (I.small (List.mem_cons_self ..) hx))]; exact Nat.le_refl _), List.take_of_length_le (by rw [hw _ (getD_mem (I.small (List.mem_cons_self ..) hy))]; exact Nat.le_refl _)] at z
  unfold rlt
  show ¬ row rows y < row rows x
  rw [z]
  exact List.lt_irrefl _
theorem take_fg {x : Nat} (hw : ∀ r ∈ rows, r.length = w) (hc : c < w) (h : x < rows.length) : (row rows x).take (c + 1) = (row rows x).take c ++ [fg rows c x] := by
  refine take_snoc (fg_at (r := row rows x) ?_ (hw _ (getD_mem h)) hc)
  simp [row, List.getD, h]
theorem app_lt : ∀ (a x y : List Nat), a ++ x < a ++ y ↔ x < y
  | [], _, _ => Iff.rfl
  | b :: a, x, y => by
    rw [List.cons_append, List.cons_append, cons_lt, app_lt a]
    simp
theorem fg_rlt {x y : Nat} (hw : ∀ r ∈ rows, r.length = w) (hc : c < w) (hx : x < rows.length) (hy : y < rows.length) (e : (row rows x).take c = (row rows y).take c) (h : fg rows c x < fg rows c y) : rlt rows x y := by
  unfold rlt
  have a := List.take_append_drop c (row rows x)
  have b := List.take_append_drop c (row rows y)
  show row rows x < row rows y
  rw [← a, ← b, e, app_lt]
  show (rows.getD x []).drop c < (rows.getD y []).drop c
  rw [drop_fg hw hc hx, drop_fg hw hc hy, cons_lt]
  exact .inl h
theorem mem_kids {fig : Nat → Nat} {A : Blk} (h : A ∈ kids fig b c B) : ∃ f, f < b ∧ A = (bk fig B f, c + 1) ∧ 0 < A.1.length := by
  unfold kids at h
  obtain ⟨h1, h2⟩ := List.mem_filter.mp h
  obtain ⟨f, h3, rfl⟩ := List.mem_map.mp h1
  exact ⟨f, List.mem_range.mp h3, rfl, of_decide_eq_true h2⟩
theorem finv_split (hw : ∀ r ∈ rows, r.length = w) (hx : ∀ p, p < rows.length → fg rows c p < b) (I : FInv rows w D ((B, c) :: Bs)) (hc : c < w) : FInv rows w D (kids (fg rows c) b c B ++ Bs) := by
  have hm : (B, c) ∈ (B, c) :: Bs := List.mem_cons_self ..
  obtain ⟨h1, h2, _⟩ := I.bl _ hm
  have hB : ∀ x ∈ B, x < rows.length := fun x hx => I.small hm hx
  have hn : B.Nodup := h1.imp fun h => Nat.ne_of_lt h
  have sub : ∀ A ∈ kids (fg rows c) b c B, ∀ x ∈ A.1, x ∈ B := fun A hA x hx => by
    obtain ⟨f, _, rfl, _⟩ := mem_kids hA
    exact (mem_bk.mp hx).1
  refine ⟨?_, I.dp, fun x hx A hA y hy => ?_, ?_, fun A hA => ?_⟩
  · rw [List.map_append, List.flatten_append, kids_flat]
    refine List.Perm.trans ?_ I.perm
    exact (((bkt_perm hn fun p hp => hx p (hB p hp)).append_right _)).append_left _
  · rcases List.mem_append.mp hA with hA | hA
    · exact I.db x hx _ hm y (sub A hA y hy)
    · exact I.db x hx A (List.mem_cons_of_mem _ hA) y hy
  · refine List.pairwise_append.mpr ⟨?_, (List.pairwise_cons.mp I.bb).2, fun A hA C hC x hx y hy => (List.pairwise_cons.mp I.bb).1 C hC x (sub A hA x hx) y hy⟩
    unfold kids
    refine List.Pairwise.filter _ ?_
    rw [List.pairwise_map]
    refine List.pairwise_lt_range.imp fun {f g} hfg x hx' y hy' => ?_
    obtain ⟨x1, x2⟩ := mem_bk.mp hx'
    obtain ⟨y1, y2⟩ := mem_bk.mp hy'
    exact .inl (fg_rlt hw hc (hB x x1) (hB y y1) (h2 x x1 y y1) (by omega))
  · rcases List.mem_append.mp hA with hA | hA
    · obtain ⟨f, _, rfl, _⟩ := mem_kids hA
      refine ⟨List.Pairwise.filter _ h1, fun x hx y hy => ?_, hc⟩
      obtain ⟨x1, x2⟩ := mem_bk.mp hx
      obtain ⟨y1, y2⟩ := mem_bk.mp hy
      show (row rows x).take (c + 1) = (row rows y).take (c + 1)
      rw [take_fg hw hc (hB x x1), take_fg hw hc (hB y y1), x2, y2]
      exact congrArg (· ++ [f]) (h2 x x1 y y1)
    · exact I.bl A (List.mem_cons_of_mem _ hA)
theorem mu_kids {fig : Nat → Nat} (hf : ∀ p ∈ B, fig p < b) (hn : B.Nodup) (hc : c < w) : mu w (kids fig b c B ++ Bs) < mu w ((B, c) :: Bs) := by
  have key : ∀ Ks : List Blk, (∀ A ∈ Ks, A.2 = c + 1 ∧ 0 < A.1.length) → (Ks.map fun A => 2 * A.1.length * (w - A.2) + 1).sum ≤ 2 * (Ks.map Prod.fst).flatten.length * (w - (c + 1)) + (Ks.map Prod.fst).flatten.length := by
    intro Ks
    induction Ks with
    | nil => intro _; simp
    | cons A Ks ih =>
      intro h
      obtain ⟨e1, e2⟩ := h A (List.mem_cons_self ..)
      have := ih fun C hC => h C (List.mem_cons_of_mem _ hC)
      rw [List.map_cons, List.sum_cons, List.map_cons, List.flatten_cons, List.length_append, e1, Nat.mul_add, Nat.add_mul]
      omega
  have k := key (kids fig b c B) fun A hA => by
    obtain ⟨f, _, rfl, h⟩ := mem_kids hA
    exact ⟨rfl, h⟩
  rw [kids_flat, (bkt_perm hn hf).length_eq] at k
  unfold mu
  rw [List.map_append, List.sum_append, List.map_cons, List.sum_cons]
  have z : 2 * B.length * (w - c) = 2 * B.length * (w - (c + 1)) + 2 * B.length := by
    rw [show w - c = w - (c + 1) + 1 by omega, Nat.mul_succ]
  show _ < 2 * B.length * (w - c) + 1 + _
  omega
theorem finv_end (I : FInv rows w D []) : IsOrd (rlt rows) rows.length D := ⟨by simpa using I.perm, I.dp⟩
theorem finv_len (I : FInv rows w D Bs) : (D ++ (Bs.map Prod.fst).flatten).length = rows.length := by rw [I.perm.length_eq, List.length_range]
end
end Fs

set_option maxHeartbeats 4000000
/-! Putting in order by the first column first. -/
namespace Fs
open PySem PySem.Spec PyProof.Rows L2
theorem cut_ab {vs : List V} {a b : Nat} (h : a ≤ b) (h2 : b ≤ vs.length) : cutV vs (some (a : Int)) (some (b : Int)) = (vs.drop a).take (b - a) := by
  unfold cutV
  rw [HT.sIx_nat, HT.sIx_nat, Nat.min_eq_left h2, Nat.min_eq_left (by omega)]
theorem map_cut {α : Type} (f : α → V) (xs : List α) (a n : Nat) : ((xs.map f).drop a).take n = ((xs.drop a).take n).map f := by rw [← List.map_drop, ← List.map_take]
section
variable {α : Type} {R : V → α → Prop} {vs : List V} {xs : List α}
theorem Each.reverse (h : Each R vs xs) : Each R vs.reverse xs.reverse := by
  refine ⟨by rw [List.length_reverse, List.length_reverse, h.1], fun i v x a b => ?_⟩
  obtain ⟨hi, _⟩ := List.getElem?_eq_some_iff.mp a
  rw [List.length_reverse] at hi
  rw [List.getElem?_reverse hi] at a
  rw [List.getElem?_reverse (by rw [← h.1]; exact hi), ← h.1] at b
  exact h.2 _ v x a b
theorem Each.dropLast (h : Each R vs xs) : Each R vs.dropLast xs.dropLast := by
  rw [List.dropLast_eq_take, List.dropLast_eq_take, h.1]
  exact h.take _
end
section
variable {P : Program} {w : World} {K : PySem.W.Frag} {mg : Str → Option Value} {base : Heap} {T : TL}
def sp_parts_of (K : PySem.W.Frag) (T : TL) : Sp := fun vs H Q _ => ∃ (G : Hp) (l : List (Addr × HO)) (sa ta : Addr) (f e c : Nat) (cs : List Nat), vs = [.ref sa, .ref ta] ∧ Own T G H l ∧ SqT K G sa [nv f, nv e, nv c] ∧ NL K G ta cs ∧ cs.length ≤ 1000 ∧
  ∀ G' H' p us, Same G G' → Own T G' H' ((p, .lst us) :: l) → Rows K G' us (parts f c cs) → Q (.ref p) H'
theorem parts_len (c : Nat) : ∀ (cs : List Nat) (f : Nat), (parts f c cs).length ≤ cs.length
  | [], f => Nat.le_refl _
  | m :: cs, f => by
    show ((if 0 < m then [[f, f + m, c + 1]] else []) ++ parts (f + m) c cs).length ≤ _
    have := parts_len c cs (f + m)
    rw [List.length_append, List.length_cons]
    split <;> simp <;> omega
theorem sc_parts_of : FnScope ["stretch", "tallied", "first", "last", "column", "found", "spot", "many"] ["stretch", "tallied"] (defScope s_parts_of) := ⟨rfl, rfl, rfl, by decide +kernel, rfl, by decide +kernel, by decide +kernel⟩
theorem cal_parts_of (t : Ctx K mg base T) : Cal P w K mg base 2 "parts_of" ["stretch", "tallied"] (sp_parts_of K T) := by
  refine cal_of t.d_parts_of t.g_parts_of sc_parts_of (fun _ _ _ _ _ _ us hl => match us, hl with | [_, _], _ => rfl) (fun vs H Q E h => ?_) (fun cdv A outer s H vs Q E hr h => ?_)
  · obtain ⟨G, l, sa, ta, f, e, c, cs, rfl, _⟩ := h
    rfl
  · obtain ⟨G, l, sa, ta, f, e, c, cs, rfl, O, hs, ht, hn, q⟩ := h
    refine ⟨_, (pss_cons (ps_asg (pv 0) (pg_tup (by rfl) (pgs_cons (pg_name (i := 2) sc_parts_of.nd rfl (.inl rfl)) (pgs_cons (pg_name (i := 3) sc_parts_of.nd rfl (.inl rfl)) (pgs_cons (pg_name (i := 4) sc_parts_of.nd rfl (.inl rfl)) pgs_nil)))))
      (pss_cons (ps_set (i := 5) sc_parts_of.nd rfl (.inl rfl) (pe_lst pa_nil))
      (pss_cons (ps_for PassesOwn.never rfl (pi_zip (by rfl) t.zip (pa_cons (pe_cal (cal_begins t) hr (pa_cons (pv 1) pa_nil)) (pa_cons (pv 1) pa_nil))) (pg_tup (by rfl) (pgs_cons (pg_name (i := 6) sc_parts_of.nd rfl (.inl rfl)) (pgs_cons (pg_name (i := 7) sc_parts_of.nd rfl (.inl rfl)) pgs_nil)))
        (pss_one (ps_if (pt_cmpR op_gt (pv 7) pe_int (nomark _))
          (pss_one (ps_expr (bmK PySem.F.plainAttrs_list PySem.F.slot_list_append PySem.F.type_list_append mt_append (pv 5) (pa_cons (pe_tup (pa_cons (pe_op op_add (pv 2) (pv 6)) (pa_cons (pe_op op_add (pe_op op_add (pv 2) (pv 6)) (pv 7)) (pa_cons (pe_op op_add (pv 4) pe_int) pa_nil)))) pa_nil))))
          pss_nil)))
      (pss_one (ps_ret (pv 5)))))), ?_⟩
    refine ⟨.ref sa, rfl, sa, _, rfl, O.tup hs, rfl, nv f, _, rfl, nv e, _, rfl, nv c, _, rfl, rfl, ?_⟩
    refine ⟨Nat.zero_le _, fun p0 n0 => ?_⟩
    have O1 := own_new (o := .lst []) O n0
    refine ⟨.ref ta, rfl, G, _, ta, cs, rfl, O1, ht, hn, fun H2 p2 O2 => ?_⟩
    have O3 := O2.frz
    have s2 := O2.gup
    have hb : NL K (upd G p2 (.lst ((begs cs).map nv))) p2 (begs cs) := .inl (.inl upd_same)
    generalize upd G p2 (.lst ((begs cs).map nv)) = G2 at O3 s2 hb
    refine ⟨.ref ta, rfl, p2, ta, _, _, rfl, O3.seq hb, O3.seq (s2.seq ht), for_it (walk_zip (n := cs.length) (by simp [begs_len])) (fun i σ H' => ∃ y z G' us, σ = [some (.ref sa), some (.ref ta), some (nv f), some (nv e), some (nv c), some (.ref p0), y, z] ∧ Same G2 G' ∧ Own T G' H' ((p0, .lst us) :: l) ∧ Rows K G' us (parts f c (cs.take i)))
      ⟨none, none, _, [], rfl, Same.refl _, O3, Each.nil⟩ (fun i σ H' _ ⟨_, _, G', _, _, s, O4, _⟩ => ⟨O4.seq (s.seq hb), O4.seq (s.seq (s2.seq ht))⟩) (fun i x σ H4 H5 hi ⟨y, z, G', us, e1, s, O4, hR⟩ hy => ?_) (fun σ H4 ⟨y, z, G', us, e1, s, O4, hR⟩ => ?_)⟩
    · subst e1
      obtain ⟨Tp, x1, x2, rfl, nT, rfl, e1, e2⟩ := hy
      obtain ⟨m, em, rfl⟩ := map_at e2
      obtain ⟨g, eg, rfl⟩ := map_at e1
      obtain rfl : g = (cs.take i).sum := by
        simp [begs, hi] at eg
        exact eg.symm
      have O5 := own_new (o := .tup [nv (cs.take i).sum, nv m]) O4 nT
      have pl : us.length ≤ i := by
        have := parts_len c (cs.take i) f
        rw [hR.1]
        rw [List.length_take] at this
        omega
      refine ⟨Tp, _, rfl, .inl (.inl O5.l0), rfl, nv (cs.take i).sum, _, rfl, nv m, _, rfl, rfl, nv m, rfl, _, _, rfl, rfl, _, rfl, ite2 (fun h => ?_) (fun h => ?_)⟩
      · have hm : 0 < m := by have := of_decide_eq_true h; omega
        refine ⟨.ref p0, rfl, .inl ⟨rfl, _, .inl (.inl O5.l1)⟩, nv f, rfl, nv (cs.take i).sum, rfl, _, _, rfl, rfl, nv f, rfl, nv (cs.take i).sum, rfl, _, _, rfl, rfl, nv m, rfl, _, _, rfl, rfl, nv c, rfl, _, _, rfl, rfl, three_ok, fun p6 n6 => ?_⟩
        have O6 := own_new (o := .tup ([f + (cs.take i).sum, f + (cs.take i).sum + m, c + 1].map nv)) O5.drop n6
        refine ⟨p0, us, .ref p6, rfl, rfl, O6.l1, sz' (by omega), some (nv (cs.take i).sum), some (nv m), _, us ++ [V.ref p6], rfl, s.trans O6.gup, own_set O6.frz 0 rfl, ?_⟩
        rw [take_snoc em, parts_snoc, if_pos hm]
        exact (hR.up O6.gup).snoc ⟨p6, rfl, .inl (.inl upd_same)⟩
      · have hm : ¬ 0 < m := fun h0 => h (decide_eq_true (by omega : (0 : Int) < (m : Int)))
        refine ⟨some (nv (cs.take i).sum), some (nv m), G', us, rfl, s, O5.drop, ?_⟩
        rw [take_snoc em, parts_snoc, if_neg hm, List.append_nil]
        exact hR
    · subst e1
      rw [List.take_length] at hR
      exact ⟨_, rfl, q G' _ p0 us (s2.trans s) O4 hR⟩
def FF (K : PySem.W.Frag) (T : TL) (G : Hp) (l : List (Addr × HO)) (a op ps pw : Addr) (rows : List (List Nat)) (b W M m : Nat) (σ : L2.St) (H : Hp) : Prop :=
  ∃ y5 y6 y7 y8 y9 y10 y11 G' us ss sts D Bs, σ = [some (.ref a), some (nv b), some (.ref op), some (.ref ps), some (.ref pw), y5, y6, y7, y8, y9, y10, y11] ∧ Same G G' ∧
    Own T G' H ((pw, .lst us) :: (op, .lst ((D ++ (Bs.map Prod.fst).flatten).map nv)) :: (ps, .lst ss) :: l) ∧ Rows K G' us (stk D.length Bs).reverse ∧ FInv rows W D Bs ∧ m = mu W Bs ∧ Rows K G' ss sts ∧ (∀ s ∈ sts, s.length = 3) ∧ sts.length + m ≤ M
def sp_from_first (K : PySem.W.Frag) (T : TL) : Sp := fun vs H Q _ => ∃ (G : Hp) (l : List (Addr × HO)) (a : Addr) (us : List V) (rows : List (List Nat)) (b : Nat), vs = [.ref a, nv b] ∧ Own T G H l ∧ SqL K G a us ∧ Rows K G us rows ∧ RowsOk b rows ∧
  ∀ G' H' p ol sl ss sts o, Same G G' → Own T G' H' l → SqT K G' p [.ref ol, .ref sl] → GL G' ol o → SqL K G' sl ss → Rows K G' ss sts → (∀ s ∈ sts, s.length = 3) → sts.length ≤ 90000 → IsOrd (rlt rows) rows.length o → Q (.ref p) H'
theorem sc_from_first : FnScope ["rows", "base", "order", "steps", "waiting", "first", "last", "column", "places", "shown", "place", "tallied"] ["rows", "base"] (defScope s_from_first) := ⟨rfl, rfl, rfl, by decide +kernel, rfl, by decide +kernel, by decide +kernel⟩
theorem cal_from_first (t : Ctx K mg base T) : Cal P w K mg base 3 "from_first" ["rows", "base"] (sp_from_first K T) := by
  refine cal_of t.d_from_first t.g_from_first sc_from_first (fun _ _ _ _ _ _ us hl => match us, hl with | [_, _], _ => rfl) (fun vs H Q E h => ?_) (fun cdv A outer s H vs Q E hr h => ?_)
  · obtain ⟨G, l, a, us, rows, b, rfl, _⟩ := h
    rfl
  · obtain ⟨G, l, a, us, rows, b, rfl, O, ha, he, ok, q⟩ := h
    refine ⟨_, (pss_cons (ps_set (i := 2) sc_from_first.nd rfl (.inl rfl) (pe_listRg rfl (by rfl) t.list (prg_1 (by rfl) t.range (pe_callB lenK (by rfl) t.len (by decide +kernel) (pa_cons (pv 0) pa_nil)))))
      (pss_cons (ps_set (i := 3) sc_from_first.nd rfl (.inl rfl) (pe_lst pa_nil))
      (pss_cons (ps_set (i := 4) sc_from_first.nd rfl (.inl rfl) (pe_lst (pa_cons (pe_tup (pa_cons pe_int (pa_cons (pe_callB lenK (by rfl) t.len (by decide +kernel) (pa_cons (pv 0) pa_nil)) (pa_cons pe_int pa_nil)))) pa_nil)))
      (pss_cons (ps_while PassesOwn.never (pt_cmpR op_gt (pe_callB lenK (by rfl) t.len (by decide +kernel) (pa_cons (pv 4) pa_nil)) pe_int (nomark _))
        (pss_cons (ps_asg (bm0K PySem.F.plainAttrs_list PySem.F.slot_list_pop PySem.F.type_list_pop mt_pop (pv 4)) (pg_tup (by rfl) (pgs_cons (pg_name (i := 5) sc_from_first.nd rfl (.inl rfl)) (pgs_cons (pg_name (i := 6) sc_from_first.nd rfl (.inl rfl)) (pgs_cons (pg_name (i := 7) sc_from_first.nd rfl (.inr rfl)) pgs_nil)))))
        (pss_cons (ps_if (PW.pt (pw_or (pt_cmpR op_lt (pe_op op_sub (pv 6) (pv 5)) pe_int (nomark _)) (pw_or1 (pt_cmpR op_eq (pv 7) (pe_cal (cal_width_of t) hr (pa_cons (pv 0) pa_nil)) (nomark _)))))
          (pss_one (ps_continue))
          pss_nil)
        (pss_cons (ps_set (i := 8) sc_from_first.nd rfl (.inl rfl) (pe_slice slL (pv 2) (po_some (pv 5)) (po_some (pv 6))))
        (pss_cons (ps_setLc (i := 9) (own := [("place", 10)]) (g := gName 10) (by rfl) sc_from_first.nd rfl rfl (sw_true rfl rfl rfl (by decide +kernel)) (piL (pv 8)) (blkOk_by (own := [("place", 10)]) (N := ["rows", "base", "order", "steps", "waiting", "first", "last", "column", "places", "shown", "place", "tallied"]) (sc := defScope s_from_first) (by decide +kernel)) (fun _ _ _ _ _ => (pg_name (i := 10) sc_from_first.nd rfl (.inl rfl))) (fun _ _ _ _ _ => pts_nil) (fun _ _ _ _ _ => (pe_ix ixT (pe_ix ixL (pv 0) (pv 10) (fun _ _ => rfl)) (pv 7) (fun _ _ => rfl))))
        (pss_cons (ps_set (i := 11) sc_from_first.nd rfl (.inl rfl) (pe_cal (cal_counts t) hr (pa_cons (pv 9) (pa_cons (pv 1) pa_nil))))
        (pss_cons (ps_if (pt_cmpR op_lt (pe_callB (maxK rfl) (by rfl) t.max_ (by decide +kernel) (pa_cons (pv 11) pa_nil)) (pe_op op_sub (pv 6) (pv 5)) (nomark _))
          (pss_cons (ps_asg (pe_cal (cal_put_by t) hr (pa_cons (pv 8) (pa_cons (pv 9) (pa_cons (pv 1) pa_nil)))) (pg_slice (pv 2) (po_some (pv 5)) (po_some (pv 6))))
          (pss_one (ps_expr (bmK PySem.F.plainAttrs_list PySem.F.slot_list_append PySem.F.type_list_append mt_append (pv 3) (pa_cons (pe_tup (pa_cons (pv 5) (pa_cons (pv 6) (pa_cons (pv 7) pa_nil)))) pa_nil)))))
          pss_nil)
        (pss_one (ps_expr (bmK PySem.F.plainAttrs_list PySem.F.slot_list_extend PySem.F.type_list_extend mt_extend (pv 4) (pa_cons (pe_listRev rfl (by rfl) t.list (by rfl) t.reversed (pe_cal (cal_parts_of t) hr (pa_cons (pe_tup (pa_cons (pv 5) (pa_cons (pv 6) (pa_cons (pv 7) pa_nil)))) (pa_cons (pv 11) pa_nil)))) pa_nil)))))))))))
      (pss_one (ps_ret (pe_tup (pa_cons (pv 2) (pa_cons (pv 3) pa_nil))))))))), ?_⟩
    have hW := wid ok
    have hW2 := wid_le ok
    obtain ⟨hb, hb2, _, hx, hn⟩ := ok
    generalize hWe : (rows.headD []).length = W at hW hW2
    have hl : us.length = rows.length := he.1
    refine ⟨.ref a, rfl, a, us, rfl, .inl (O.seq ha), _, rfl, rg_ok (by omega), fun op n0 => ?_⟩
    rw [rg_nv, hl]
    have O1 := own_new (o := .lst ((List.range rows.length).map nv)) O n0
    refine ⟨Nat.zero_le _, fun ps n1 => ?_⟩
    have O2 := own_new (o := .lst []) O1 n1
    refine ⟨.ref a, rfl, a, us, rfl, .inl (O2.seq ha), three_ok, fun tp ntp => ?_⟩
    rw [hl]
    have O3 := own_new (o := .tup ([0, rows.length, 0].map nv)) O2 ntp
    have s3 := O3.gup
    have O3 := O3.frz
    have r3 : RowN K (upd G tp (.tup ([0, rows.length, 0].map nv))) (.ref tp) [0, rows.length, 0] := ⟨tp, rfl, .inl (.inl upd_same)⟩
    refine ⟨sz (by show 1 ≤ _; omega), fun pw n3 => ?_⟩
    have O4 := own_new (o := .lst [.ref tp]) O3 n3
    generalize upd G tp (.tup ([0, rows.length, 0].map nv)) = G1 at O4 O3 s3 r3
    have hM : 0 + mu W [(List.range rows.length, 0)] ≤ 80001 := by
      have : rows.length * W ≤ 200 * 200 := Nat.mul_le_mul hn hW2
      simp only [mu, List.map_cons, List.map_nil, List.sum_cons, List.sum_nil, List.length_range, Nat.mul_assoc]
      show 0 + (2 * (rows.length * (W - 0)) + 1 + 0) ≤ _
      rw [Nat.sub_zero]
      omega
    refine ⟨FF K T G1 l a op ps pw rows b W 80001, ⟨_, none, none, none, none, none, none, none, G1, [.ref tp], [], [], [], [(List.range rows.length, 0)], rfl, Same.refl _, ?_, ?_, finv0, rfl, Each.nil, (fun s h => nomatch h), hM⟩, fun m σ H' ⟨y5, y6, y7, y8, y9, y10, y11, G', wv, ss, sts, D, Bs, e, s, O5, hR, I, hm, hS, h3, hMm⟩ => ?_⟩
    · have e : (([] : List Nat) ++ ([(List.range rows.length, 0)].map Prod.fst).flatten) = List.range rows.length := by simp
      rw [e]
      exact O4.perm ((List.Perm.swap _ _ _).cons _)
    · show Rows K G1 [.ref tp] [[0, 0 + (List.range rows.length).length, 0]]
      rw [List.length_range, Nat.zero_add]
      exact Each.one r3
    · subst e
      refine ⟨.ref pw, rfl, pw, wv, rfl, .inl (.inl (.inl O5.l0)), _, _, rfl, rfl, _, rfl, ite2 (fun h => ?_) (fun h => ?_)⟩
      · cases Bs with
        | nil =>
          have : wv.length = 0 := hR.1
          have := of_decide_eq_true h
          omega
        | cons B Bs =>
          obtain ⟨B, c⟩ := B
          have hrev : (stk D.length ((B, c) :: Bs)).reverse = (stk (D.length + B.length) Bs).reverse ++ [[D.length, D.length + B.length, c]] := by
            show (_ :: _).reverse = _
            rw [List.reverse_cons]
          rw [hrev] at hR
          have hlen : wv.length = (stk (D.length + B.length) Bs).length + 1 := by rw [hR.1, List.length_append, List.length_reverse]; rfl
          obtain ⟨v, ev, tq, rfl, htq⟩ := hR.at_x (i := wv.length - 1) (x := [D.length, D.length + B.length, c]) (by
            rw [hlen, List.getElem?_append_right (by rw [List.length_reverse]; omega), List.length_reverse]
            simp)
          have hR2 := hR.dropLast
          rw [List.dropLast_concat] at hR2
          have O6 := own_set (o' := .lst wv.dropLast) O5 0 rfl
          refine ⟨fun σ' H'' => ∃ m', m' < m ∧ FF K T G1 l a op ps pw rows b W 80001 m' σ' H'', fun _ _ h => h, .ref pw, rfl, .inl ⟨rfl, _, .inl (.inl O5.l0)⟩, pw, wv, _, rfl, rfl, O5.l0, ev, ?_⟩
          refine ⟨tq, _, rfl, O6.tup htq, rfl, nv D.length, _, rfl, nv (D.length + B.length), _, rfl, nv c, _, rfl, rfl, ?_⟩
          have sG := s3.trans s
          have hIlen := finv_len I
          rw [List.map_cons, List.flatten_cons] at hIlen
          rw [List.length_append, List.length_append] at hIlen
          have hIlen : D.length + (B.length + (Bs.map Prod.fst).flatten.length) = rows.length := hIlen
          have dn : B.Pairwise (bef (rlt rows)) → ∀ y8 y9 y10 y11, ∃ m', m' < m ∧ FF K T G1 l a op ps pw rows b W 80001 m' [some (.ref a), some (nv b), some (.ref op), some (.ref ps), some (.ref pw), some (nv D.length), some (nv (D.length + B.length)), some (nv c), y8, y9, y10, y11] (upd H' pw (.lst wv.dropLast)) := by
            intro hB y8 y9 y10 y11
            have hmm : mu W Bs < mu W ((B, c) :: Bs) := by
              simp only [mu, List.map_cons, List.sum_cons]
              omega
            refine ⟨mu W Bs, by rw [hm]; exact hmm, _, _, _, y8, y9, y10, y11, G', wv.dropLast, ss, sts, D ++ B, Bs, rfl, s, ?_, ?_, finv_done I hB, rfl, hS, h3, by omega⟩
            · have e : D ++ B ++ (Bs.map Prod.fst).flatten = D ++ (((B, c) :: Bs).map Prod.fst).flatten := by simp
              rw [e]
              exact O6
            · rw [List.length_append]
              exact hR2
          refine ⟨nv (D.length + B.length), rfl, nv D.length, rfl, _, _, rfl, rfl, _, _, rfl, rfl, _, rfl, ite2 (fun h2 => ?_) (fun h2 => ?_)⟩
          · refine iteT ?_
            exact dn (pw_small (by have := of_decide_eq_true h2; omega)) _ _ _ _
          · have hB2 : 2 ≤ B.length := by
              by_cases h0 : 2 ≤ B.length
              · exact h0
              · exact absurd (decide_eq_true (by omega : ((D.length + B.length : Nat) : Int) - (D.length : Int) < 2)) h2
            refine ⟨nv c, rfl, .ref a, rfl, a, us, rows, rfl, O6.seq (sG.seq ha), he.up (sG.trans O6.sub), rfl, _, rfl, ?_⟩
            rw [hWe]
            refine ite2 (fun h4 => ?_) (fun h4 => ?_)
            · have hc : c = W := by
                have := of_decide_eq_true h4
                injection this with this
                omega
              exact dn (finv_same hW I hc) _ _ _ _
            · have hcw : c < W := by
                have h5 := (I.bl _ (List.mem_cons_self ..)).2.2
                have h6 : c ≠ W := fun e => h4 (decide_eq_true (by rw [e]))
                show c < W
                have h5 : c ≤ W := h5
                omega
              have hBs : ∀ p ∈ B, p < rows.length := fun p hp => I.small (List.mem_cons_self ..) hp
              have hf : ∀ p, p < rows.length → fg rows c p < b := fun p hp => fg_small hW hcw hx hp
              have hBn : B.Nodup := (I.bl _ (List.mem_cons_self ..)).1.imp fun h => Nat.ne_of_lt h
              -- places
              refine ⟨.ref op, rfl, nv D.length, rfl, _, rfl, nv (D.length + B.length), rfl, _, rfl, op, _, rfl, .inl (.inl O6.l1), fun p8 n8 => ?_⟩
              have e8 : cutV ((D ++ (((B, c) :: Bs).map Prod.fst).flatten).map nv) (some (D.length : Int)) (some ((D.length + B.length : Nat) : Int)) = B.map nv := by
                rw [cut_ab (by omega) (by rw [List.length_map, List.length_append, List.map_cons, List.flatten_cons, List.length_append]; omega), map_cut, show D.length + B.length - D.length = B.length by omega, List.drop_left, List.map_cons, List.flatten_cons, List.take_left]
              rw [e8]
              have O7 := own_new (o := .lst (B.map nv)) O6 n8
              have s7 := O7.gup
              have O7 := O7.frz
              have hp8 : NL K (upd G' p8 (.lst (B.map nv))) p8 B := .inl (.inl upd_same)
              generalize upd G' p8 (.lst (B.map nv)) = G7 at O7 s7 hp8
              refine ⟨.ref p8, rfl, p8, rfl, ⟨_, O7.seq hp8⟩, fun E nE => lc_val (ys := B) walk_list O7 nE (by simp) (by simp; omega) (fun p => nv (fg rows c p)) (fun H' s' => s'.seq hp8) (fun j x p H7 H8 acc Qc hj ep O8 hy hQ => ?_) (fun H8 O8 => ?_)⟩
              · obtain ⟨rfl, hy⟩ := hy
                obtain ⟨p', ep', rfl⟩ := map_at hy
                obtain rfl : p' = p := Option.some.inj (ep'.symm.trans ep)
                have hp := hBs p' (List.mem_of_getElem? ep)
                obtain ⟨t, et, ht, er⟩ := row_at he ((sG.trans s7).trans O8.sub) hp
                exact ⟨rfl, .ref a, rfl, nv p', rfl, a, us, _, _, rfl, rfl, O8.seq (s7.seq (sG.seq ha)), atI_v et, nv c, rfl, t, _, _, _, rfl, rfl, ht, atI_map (fg_at er (hW _ (List.mem_of_getElem? er)) hcw), hQ _ O8⟩
              · rw [nvf] at O8
                have s8 := O8.gup
                have O9 := O8.frz
                have hs : NL K (upd G7 E (.lst ((B.map (fg rows c)).map nv))) E (B.map (fg rows c)) := .inl (.inl upd_same)
                generalize upd G7 E (.lst ((B.map (fg rows c)).map nv)) = G8 at s8 O9 hs
                refine ⟨.ref E, rfl, nv b, rfl, G8, _, E, _, b, rfl, O9, hs, by omega, fun n h => by obtain ⟨p, h1, rfl⟩ := List.mem_map.mp h; exact hf p (hBs p h1), fun H9 p9 O10 => ?_⟩
                have s9 := O10.gup
                have O11 := O10.frz
                have hc9 : NL K (upd G8 p9 (.lst ((cnt (B.map (fg rows c)) b).map nv))) p9 (cnt (B.map (fg rows c)) b) := .inl (.inl upd_same)
                generalize upd G8 p9 (.lst ((cnt (B.map (fg rows c)) b).map nv)) = G9 at s9 O11 hc9
                have sG9 := (s7.trans s8).trans s9
                -- behind the if
                have bl : (bkt (fg rows c) b B).length = B.length := (bkt_perm hBn fun p hp => hf p (hBs p hp)).length_eq
                have tail : ∀ (Dd : Ends) (G' : Hp) (H' : Hp) (ss : List V) (sts : List (List Nat)), Dd.nx = (fun σ' H'' => ∃ m', m' < m ∧ FF K T G1 l a op ps pw rows b W 80001 m' σ' H'') → Same G9 G' → Own T G' H' ((pw, .lst wv.dropLast) :: (op, .lst ((D ++ (bkt (fg rows c) b B ++ (Bs.map Prod.fst).flatten)).map nv)) :: (ps, .lst ss) :: l) → Rows K G' ss sts → (∀ s ∈ sts, s.length = 3) → sts.length + mu W (kids (fg rows c) b c B ++ Bs) ≤ 80001 →
                    tDrop (tBM K "list" rExtend (tVar 4) (tCons (tListRev K (tCall (sp_parts_of K T) [] E0 (tCons (tTup (tCons (tVar 5) (tCons (tVar 6) (tCons (tVar 7) tNil)))) (tCons (tVar 11) tNil)))) tNil)) Dd
                      [some (.ref a), some (nv b), some (.ref op), some (.ref ps), some (.ref pw), some (nv D.length), some (nv (D.length + B.length)), some (nv c), some (.ref p8), some (.ref E), y10, some (.ref p9)] H' := by
                  intro Dd G10 H10 ss sts hD sA OA hS h3 hmm
                  refine ⟨.ref pw, rfl, .inl ⟨rfl, _, .inl (.inl OA.l0)⟩, nv D.length, rfl, nv (D.length + B.length), rfl, nv c, rfl, three_ok, fun tp ntp => ⟨.ref p9, rfl, ?_⟩⟩
                  have OB := own_new (o := .tup [nv D.length, nv (D.length + B.length), nv c]) OA ntp
                  have sB := OB.gup
                  refine ⟨_, _, tp, p9, D.length, D.length + B.length, c, _, rfl, OB.frz, .inl (.inl upd_same), sB.seq (sA.seq hc9), by rw [cnt_len]; omega, fun G12 H12 pp pv s12 O12 hP => ?_⟩
                  refine ⟨pp, pv, rfl, .inl (.inl O12.l0), fun q nq => ?_⟩
                  have OC := own_new (o := .lst pv.reverse) O12.drop nq
                  have hpl : pv.length ≤ 64 := by
                    rw [hP.1]
                    exact Nat.le_trans (parts_len ..) (by rw [cnt_len]; exact hb2)
                  refine ⟨pw, q, _, _, rfl, rfl, OC.l1, OC.l0, sz (by rw [List.length_dropLast, List.length_reverse]; have e1 := stk_len Bs (D.length + B.length); have e2 := mu_len (w := W) ((B, c) :: Bs); rw [List.length_cons] at e2; omega), ?_⟩
                  · rw [hD]
                    have sC := (sA.trans sB).trans s12
                    refine ⟨_, by rw [hm]; exact mu_kids (Bs := Bs) (fun p hp => hf p (hBs p hp)) hBn hcw, _, _, _, _, _, _, _, G12, wv.dropLast ++ pv.reverse, ss, sts, D, kids (fg rows c) b c B ++ Bs, rfl, (s.trans sG9).trans sC, ?_, ?_, finv_split hW hf I hcw, rfl, hS.up (sB.trans s12), h3, hmm⟩
                    · rw [show ((kids (fg rows c) b c B ++ Bs).map Prod.fst).flatten = bkt (fg rows c) b B ++ (Bs.map Prod.fst).flatten by rw [List.map_append, List.flatten_append, kids_flat]]
                      exact own_set OC.drop 0 rfl
                    · rw [stk_app, kids_flat, bl, kids_stk, List.reverse_append]
                      exact (Rows.up (sG9.trans sC) hR2).app hP.reverse
                have e11 : ((B, c) :: Bs).map Prod.fst = B :: Bs.map Prod.fst := rfl
                have hss : ss.length ≤ 80001 := by rw [hS.1]; omega
                refine ⟨.ref p9, rfl, p9, (cnt (B.map (fg rows c)) b).map fun n : Nat => (n : Int), rfl, by rw [← nvs]; exact O11.seq hc9, by rw [List.length_map, cnt_len]; omega, fun mx hmx hmax => ?_⟩
                refine ⟨nv (D.length + B.length), rfl, nv D.length, rfl, _, _, rfl, rfl, _, _, rfl, rfl, _, rfl, ite2 (fun h => ?_) (fun h => ?_)⟩
                · refine ⟨.ref p8, rfl, .ref E, rfl, nv b, rfl, G9, _, p8, E, B, fg rows c, b, rfl, O11, (s8.trans s9).seq hp8, s9.seq hs, by omega, fun p hp => hf p (hBs p hp), by omega, fun G12 H12 p12 s12 O12 => ?_⟩
                  have sl := own_set (o' := .lst ((D ++ (bkt (fg rows c) b B ++ (Bs.map Prod.fst).flatten)).map nv)) O12 2 rfl
                  refine ⟨.ref op, rfl, nv D.length, rfl, _, rfl, nv (D.length + B.length), rfl, _, rfl, op, p12, _, _, _, _, rfl, rfl, rfl, rfl, O12.l2, O12.l0, ?_, by omega, by omega, ?_, ?_, ?_⟩
                  · intro e
                    have := O12.nd
                    rw [← e] at this
                    simp at this
                  · rw [List.length_map, List.length_append, e11, List.flatten_cons, List.length_append]
                    omega
                  · rw [List.length_map, List.length_append, e11, List.flatten_cons, List.length_append, List.length_map, bl]
                    exact sz (by omega)
                  · have e12 : ((D ++ (((B, c) :: Bs).map Prod.fst).flatten).map nv).take (Int.toNat (D.length : Int)) ++ (bkt (fg rows c) b B).map nv ++ ((D ++ (((B, c) :: Bs).map Prod.fst).flatten).map nv).drop (Int.toNat ((D.length + B.length : Nat) : Int)) = (D ++ (bkt (fg rows c) b B ++ (Bs.map Prod.fst).flatten)).map nv := by
                      rw [Int.toNat_natCast, Int.toNat_natCast, e11, List.flatten_cons, ← List.map_take, ← List.map_drop, List.take_left, ← List.append_assoc, show D.length + B.length = (D ++ B).length by rw [List.length_append], List.drop_left, ← List.map_append, ← List.map_append, List.append_assoc]
                    rw [e12]
                    have O13 := sl.drop
                    refine ⟨.ref ps, rfl, .inl ⟨rfl, _, .inl (.inl O13.l2)⟩, nv D.length, rfl, nv (D.length + B.length), rfl, nv c, rfl, three_ok, fun tq ntq => ?_⟩
                    have O14 := own_new (o := .tup ([D.length, D.length + B.length, c].map nv)) O13 ntq
                    refine ⟨ps, _, _, rfl, rfl, O14.l3, sz' (by omega), ?_⟩
                    have s14 := O14.gup
                    refine tail _ _ _ (ss ++ [V.ref tq]) (sts ++ [[D.length, D.length + B.length, c]]) rfl (s12.trans s14) (own_set O14.frz 2 rfl) ((hS.up ((sG9.trans s12).trans s14)).snoc ⟨tq, rfl, .inl (.inl upd_same)⟩) ?_ ?_
                    · intro s hs
                      rcases List.mem_append.mp hs with hs | hs
                      · exact h3 s hs
                      · rw [List.mem_singleton.mp hs]
                        rfl
                    · have := mu_kids (Bs := Bs) (fun p hp => hf p (hBs p hp)) hBn hcw
                      rw [List.length_append, List.length_singleton]
                      omega
                · obtain ⟨f, hf1, hf2⟩ := max_cnt (fun n h => by obtain ⟨p, h1, rfl⟩ := List.mem_map.mp h; exact hf p (hBs p h1)) hmx
                  have hcount : (B.map (fg rows c)).count f = B.length := by
                    have h1 : (B.map (fg rows c)).count f ≤ (B.map (fg rows c)).length := List.count_le_length
                    rw [List.length_map] at h1
                    have h2 : ¬ (mx < ((D.length + B.length : Nat) : Int) - (D.length : Int)) := fun z => h (decide_eq_true z)
                    omega
                  refine tail _ G9 _ ss sts rfl (Same.refl _) ?_ (hS.up sG9) h3 ?_
                  · rw [bkt_same hf1 (all_same hcount)]
                    exact O11
                  · have := mu_kids (Bs := Bs) (fun p hp => hf p (hBs p hp)) hBn hcw
                    omega
      · have hBs : Bs = [] := by
          cases Bs with
          | nil => rfl
          | cons B Bs =>
            refine absurd (decide_eq_true ?_) h
            have : wv.length = (stk D.length (B :: Bs)).length := by rw [hR.1, List.length_reverse]
            rw [this]
            show (0 : Int) < (((stk _ Bs).length + 1 : Nat) : Int)
            omega
        subst hBs
        have O6 := O5.drop
        rw [show D ++ (([] : List Blk).map Prod.fst).flatten = D by simp] at O6
        refine ⟨.ref op, rfl, .ref ps, rfl, two_ok, fun p np => ?_⟩
        have s6 := O6.gup
        have s7 := O6.frz.gup
        have O8 := own_new (o := .tup [.ref op, .ref ps]) O6.frz.frz np
        have s8 := O8.gup
        have sz := (s6.trans s7).trans s8
        exact q _ _ p op ps ss sts D ((s3.trans s).trans sz) O8.frz (.inl (.inl upd_same)) (s8 _ _ (s7 _ _ upd_same)) (s8.seq (.inl (.inl upd_same))) (hS.up sz) h3 (by omega) (finv_end I)
end
end Fs

set_option maxHeartbeats 4000000
/-! By runs: two by two. -/
namespace Fs
open PySem PySem.Spec PyProof.Rows L2
section
variable {rows : List (List Nat)} {n : Nat}
theorem bef_not {x y : Nat} (h : bef (rlt rows) x y) : ¬ rlt rows y x := by
  rcases h with h | ⟨h, _⟩
  · exact rlt_as _ _ h
  · exact h
theorem le_of_not {r s : List Nat} (h : ¬ s < r) : r ≤ s := List.not_lt.mp h
theorem not_trans {x y z : Nat} (h1 : ¬ rlt rows y x) (h2 : ¬ rlt rows z y) : ¬ rlt rows z x := by
  unfold rlt at *
  exact List.not_lt.mpr (List.le_trans (List.not_lt.mp h1) (List.not_lt.mp h2))
theorem lt_not {x y z : Nat} (h1 : rlt rows x y) (h2 : ¬ rlt rows z y) : rlt rows x z := by
  unfold rlt at *
  exact Decidable.byContradiction fun h => absurd h1 (List.not_lt.mpr (List.le_trans (List.not_lt.mp h2) (List.not_lt.mp h)))
/-- merging: of what is alike the left one first -/
def mrg (rows : List (List Nat)) : List Nat → List Nat → List Nat
  | A, [] => A
  | [], y :: B => y :: mrg rows [] B
  | x :: A, y :: B => if row rows y < row rows x then y :: mrg rows (x :: A) B else x :: mrg rows A (y :: B)
  termination_by A B => A.length + B.length
theorem mrg_perm : ∀ (A B : List Nat), (mrg rows A B).Perm (A ++ B)
  | A, [] => by rw [mrg, List.append_nil]
  | [], y :: B => by
    rw [mrg]
    exact (mrg_perm [] B).cons y
  | x :: A, y :: B => by
    rw [mrg]
    split
    · exact ((mrg_perm (x :: A) B).cons y).trans List.perm_middle.symm
    · exact (mrg_perm A (y :: B)).cons x
  termination_by A B => A.length + B.length
theorem mrg_pair : ∀ (A B : List Nat), A.Pairwise (bef (rlt rows)) → B.Pairwise (bef (rlt rows)) → (∀ x ∈ A, ∀ y ∈ B, x < y) → (mrg rows A B).Pairwise (bef (rlt rows))
  | A, [], hA, _, _ => by rw [mrg]; exact hA
  | [], y :: B, _, hB, _ => by
    obtain ⟨h1, h2⟩ := List.pairwise_cons.mp hB
    rw [mrg]
    refine List.pairwise_cons.mpr ⟨fun z hz => ?_, mrg_pair [] B List.Pairwise.nil h2 fun x h => nomatch h⟩
    have := (mrg_perm [] B).mem_iff.mp hz
    exact h1 z this
  | x :: A, y :: B, hA, hB, hAB => by
    obtain ⟨a1, a2⟩ := List.pairwise_cons.mp hA
    obtain ⟨b1, b2⟩ := List.pairwise_cons.mp hB
    rw [mrg]
    split
    · rename_i h
      refine List.pairwise_cons.mpr ⟨fun z hz => ?_, mrg_pair (x :: A) B hA b2 fun u hu v hv => hAB u hu v (List.mem_cons_of_mem _ hv)⟩
      rcases List.mem_append.mp ((mrg_perm (x :: A) B).mem_iff.mp hz) with hz | hz
      · rcases List.mem_cons.mp hz with rfl | hz
        · exact .inl h
        · exact .inl (lt_not h (bef_not (a1 z hz)))
      · exact b1 z hz
    · rename_i h
      refine List.pairwise_cons.mpr ⟨fun z hz => ?_, mrg_pair A (y :: B) a2 hB fun u hu v hv => hAB u (List.mem_cons_of_mem _ hu) v hv⟩
      rcases List.mem_append.mp ((mrg_perm A (y :: B)).mem_iff.mp hz) with hz | hz
      · exact a1 z hz
      · refine .inr ⟨?_, hAB x (List.mem_cons_self ..) z hz⟩
        rcases List.mem_cons.mp hz with rfl | hz
        · exact h
        · exact not_trans (x := x) (y := y) (z := z) h (bef_not (b1 z hz))
  termination_by A B => A.length + B.length
/-- the merge as pairs: of which half, the how manieth -/
def mp : List (List Nat) → Nat → List (List Nat) → Nat → List (List Nat)
  | tl, at', [], k => (List.range tl.length).map fun i => [0, at' + i]
  | [], at', r :: rs, k => [1, k] :: mp [] at' rs (k + 1)
  | x :: tl, at', r :: rs, k => if r < x then [1, k] :: mp (x :: tl) at' rs (k + 1) else [0, at'] :: mp tl (at' + 1) (r :: rs) k
  termination_by tl _ rs _ => tl.length + rs.length
def look (A B : List Nat) (p : List Nat) : Nat := if p.getD 0 0 = 0 then A.getD (p.getD 1 0) 0 else B.getD (p.getD 1 0) 0
theorem getD_drop {A A' : List Nat} {i x : Nat} (h : A.drop i = x :: A') : A.getD i 0 = x ∧ A.drop (i + 1) = A' := by
  have e : A[i]? = some x := by
    have := congrArg (·[0]?) h
    simpa using this
  refine ⟨by simp [List.getD, e], ?_⟩
  rw [← List.drop_drop, h]
  rfl
theorem mp_look (A B : List Nat) : ∀ (A' : List Nat) (i : Nat) (B' : List Nat) (k : Nat), A.drop i = A' → B.drop k = B' → (mp (A'.map (row rows)) i (B'.map (row rows)) k).map (look A B) = mrg rows A' B'
  | A', i, [], k, h1, h2 => by
    rw [List.map_nil, mp, mrg, List.map_map, List.length_map]
    apply List.ext_getElem
    · simp
    · intro j a b
      simp [look]
      have : A[i + j]? = some A'[j] := by
        have : (A.drop i)[j]? = some A'[j] := by rw [h1]; exact List.getElem?_eq_getElem _
        rwa [List.getElem?_drop] at this
      simp [this]
  | [], i, y :: B', k, h1, h2 => by
    obtain ⟨e1, e2⟩ := getD_drop h2
    rw [List.map_nil, List.map_cons, mp, mrg, List.map_cons]
    have := mp_look A B [] i B' (k + 1) h1 e2
    rw [List.map_nil] at this
    rw [this]
    congr 1
  | x :: A', i, y :: B', k, h1, h2 => by
    obtain ⟨e1, e2⟩ := getD_drop h2
    obtain ⟨d1, d2⟩ := getD_drop h1
    rw [List.map_cons, List.map_cons, mp, mrg]
    by_cases h : row rows y < row rows x
    · rw [if_pos h, if_pos h, List.map_cons]
      have := mp_look A B (x :: A') i B' (k + 1) h1 e2
      rw [List.map_cons] at this
      rw [this]
      congr 1
    · rw [if_neg h, if_neg h, List.map_cons]
      have := mp_look A B A' (i + 1) (y :: B') k d2 h2
      rw [List.map_cons] at this
      rw [this]
      congr 1
  termination_by A' _ B' _ => A'.length + B'.length
theorem mp_good (a b : Nat) : ∀ (tl : List (List Nat)) (i : Nat) (rs : List (List Nat)) (k : Nat), i + tl.length ≤ a → k + rs.length ≤ b → ∀ p ∈ mp tl i rs k, ∃ j, (p = [0, j] ∧ j < a) ∨ (p = [1, j] ∧ j < b)
  | tl, i, [], k, h1, h2, p, hp => by
    rw [mp] at hp
    obtain ⟨j, hj, rfl⟩ := List.mem_map.mp hp
    have := List.mem_range.mp hj
    exact ⟨_, .inl ⟨rfl, by omega⟩⟩
  | [], i, r :: rs, k, h1, h2, p, hp => by
    rw [mp] at hp
    rw [List.length_cons] at h2
    rcases List.mem_cons.mp hp with rfl | hp
    · exact ⟨_, .inr ⟨rfl, by omega⟩⟩
    · exact mp_good a b [] i rs (k + 1) h1 (by omega) p hp
  | x :: tl, i, r :: rs, k, h1, h2, p, hp => by
    rw [mp] at hp
    rw [List.length_cons] at h1 h2
    split at hp
    · rcases List.mem_cons.mp hp with rfl | hp
      · exact ⟨_, .inr ⟨rfl, by omega⟩⟩
      · exact mp_good a b (x :: tl) i rs (k + 1) (by rw [List.length_cons]; omega) (by omega) p hp
    · rcases List.mem_cons.mp hp with rfl | hp
      · exact ⟨_, .inl ⟨rfl, by omega⟩⟩
      · exact mp_good a b tl (i + 1) (r :: rs) k (by omega) (by rw [List.length_cons]; omega) p hp
  termination_by tl _ rs _ => tl.length + rs.length
theorem mp_len : ∀ (tl : List (List Nat)) (i : Nat) (rs : List (List Nat)) (k : Nat), (mp tl i rs k).length = tl.length + rs.length
  | tl, i, [], k => by rw [mp]; simp
  | [], i, r :: rs, k => by rw [mp, List.length_cons, mp_len [] i rs]; simp
  | x :: tl, i, r :: rs, k => by
    rw [mp]
    split
    · rw [List.length_cons, mp_len (x :: tl) i rs]; simp; omega
    · rw [List.length_cons, mp_len tl (i + 1) (r :: rs)]; simp; omega
  termination_by tl _ rs _ => tl.length + rs.length
/-! ### the runs -/
structure RunInv (rows : List (List Nat)) (k : Nat) (Bs : List (List Nat)) : Prop where
  flat : Bs.flatten = List.range k
  pw : ∀ B ∈ Bs, B.Pairwise (bef (rlt rows))
  ne : ∀ B ∈ Bs, B ≠ []
theorem run0 : RunInv rows 0 [] := ⟨rfl, (fun B h => nomatch h), (fun B h => nomatch h)⟩
theorem run_new {k : Nat} {Bs : List (List Nat)} (I : RunInv rows k Bs) : RunInv rows (k + 1) (Bs ++ [[k]]) := by
  refine ⟨by rw [List.flatten_append, I.flat, List.range_succ]; rfl, fun B hB => ?_, fun B hB => ?_⟩
  · rcases List.mem_append.mp hB with hB | hB
    · exact I.pw B hB
    · rw [List.mem_singleton.mp hB]
      exact List.pairwise_singleton ..
  · rcases List.mem_append.mp hB with hB | hB
    · exact I.ne B hB
    · rw [List.mem_singleton.mp hB]
      simp
theorem run_more {k : Nat} {Bs : List (List Nat)} {B : List Nat} (I : RunInv rows (k + 1) (Bs ++ [B])) (h : ¬ rlt rows (k + 1) k) : RunInv rows (k + 2) (Bs ++ [B ++ [k + 1]]) := by
  have fl := I.flat
  rw [List.flatten_append] at fl
  have fl : Bs.flatten ++ B = List.range (k + 1) := by simpa using fl
  have hB : B ≠ [] := I.ne B (by simp)
  obtain ⟨C, z, rfl⟩ : ∃ C z, B = C ++ [z] := ⟨B.dropLast, B.getLast hB, (List.dropLast_concat_getLast hB).symm⟩
  have hz : z = k := by
    rw [← List.append_assoc, List.range_succ] at fl
    have := List.append_inj_right' fl rfl
    simpa using this
  subst hz
  have hlt : ∀ x ∈ C ++ [z], x < z + 1 := fun x hx => List.mem_range.mp (by rw [← fl]; exact List.mem_append_right _ hx)
  refine ⟨by rw [List.flatten_append, List.range_succ, ← fl]; simp, fun A hA => ?_, fun A hA => ?_⟩
  · rcases List.mem_append.mp hA with hA | hA
    · exact I.pw A (by simp [hA])
    · rw [List.mem_singleton.mp hA]
      have pB := I.pw (C ++ [z]) (by simp)
      refine List.pairwise_append.mpr ⟨pB, List.pairwise_singleton .., fun x hx y hy => ?_⟩
      rw [List.mem_singleton.mp hy]
      refine .inr ⟨?_, hlt x hx⟩
      rcases List.mem_append.mp hx with hx | hx
      · exact not_trans (x := x) (y := z) (z := z + 1) (bef_not ((List.pairwise_append.mp pB).2.2 x hx z (by simp))) h
      · rw [List.mem_singleton.mp hx]
        exact h
  · rcases List.mem_append.mp hA with hA | hA
    · exact I.ne A (by simp [hA])
    · rw [List.mem_singleton.mp hA]
      simp
/-! ### rounds -/
def rndS : Nat → List Nat → List (List Nat)
  | f, a :: b :: r => [f, f + a, f + a + b] :: rndS (f + a + b) r
  | _, _ => []
def rndM : List Nat → List Nat
  | a :: b :: r => (a + b) :: rndM r
  | l => l
theorem rndM_len : ∀ l : List Nat, (rndM l).length ≤ l.length ∧ (2 ≤ l.length → (rndM l).length < l.length)
  | [] => ⟨Nat.le_refl _, fun h => by simp at h⟩
  | [a] => ⟨Nat.le_refl _, fun h => by simp at h⟩
  | a :: b :: r => by
    have := (rndM_len r).1
    rw [rndM, List.length_cons, List.length_cons, List.length_cons]
    exact ⟨by omega, fun _ => by omega⟩
theorem rndM_sum : ∀ l : List Nat, (rndM l).sum = l.sum
  | [] => rfl
  | [a] => rfl
  | a :: b :: r => by rw [rndM, List.sum_cons, List.sum_cons, List.sum_cons, rndM_sum r]; omega
def allS (l : List Nat) : List (List Nat) := if h : l.length < 2 then [] else rndS 0 l ++ allS (rndM l)
  termination_by l.length
  decreasing_by exact (rndM_len l).2 (by omega)
theorem allS_small {l : List Nat} (h : l.length < 2) : allS l = [] := by rw [allS, dif_pos h]
theorem allS_more {l : List Nat} (h : ¬ l.length < 2) : allS l = rndS 0 l ++ allS (rndM l) := by rw [allS, dif_neg h]
structure RInv (rows : List (List Nat)) (Dn Bs : List (List Nat)) : Prop where
  perm : (Dn ++ Bs).flatten.Perm (List.range rows.length)
  pw : ∀ B ∈ Dn ++ Bs, B.Pairwise (bef (rlt rows))
  up : (Dn ++ Bs).Pairwise fun A B => ∀ x ∈ A, ∀ y ∈ B, x < y
def todo (Dn Bs : List (List Nat)) : List (List Nat) := rndS Dn.flatten.length (Bs.map List.length) ++ allS (Dn.map List.length ++ rndM (Bs.map List.length))
theorem todo_norm {Dn Bs : List (List Nat)} : (todo Dn Bs = [] ∧ (Dn ++ Bs).length < 2) ∨ (∃ A B Bs', Bs = A :: B :: Bs') ∨ (∃ A B Bs', Dn ++ Bs = A :: B :: Bs' ∧ todo Dn Bs = todo [] (Dn ++ Bs)) := by
  match Bs with
  | A :: B :: Bs' => exact .inr (.inl ⟨A, B, Bs', rfl⟩)
  | [] | [A] =>
    all_goals
      first
        | (by_cases h : (Dn ++ []).length < 2
           · refine .inl ⟨?_, h⟩
             unfold todo
             rw [allS_small (by simpa [rndM] using h)]
             rfl
           · refine .inr (.inr ?_)
             have e2 : todo Dn [] = todo [] (Dn ++ []) := by
               unfold todo
               rw [allS_more (by simpa [rndM] using h)]
               simp [rndM, rndS]
             match hD : Dn ++ [] with
             | C :: D :: r => exact ⟨C, D, r, rfl, by rw [e2, hD]⟩
             | [C] => rw [hD] at h; exact absurd (by simp) h
             | [] => rw [hD] at h; exact absurd (by simp) h)
        | (by_cases h : (Dn ++ [A]).length < 2
           · refine .inl ⟨?_, h⟩
             unfold todo
             rw [allS_small (by simpa [rndM] using h)]
             rfl
           · refine .inr (.inr ?_)
             have e2 : todo Dn [A] = todo [] (Dn ++ [A]) := by
               unfold todo
               rw [allS_more (by simpa [rndM] using h)]
               simp [rndM, rndS]
             match hD : Dn ++ [A] with
             | C :: D :: r => exact ⟨C, D, r, rfl, by rw [e2, hD]⟩
             | [C] => rw [hD] at h; exact absurd (by simp) h
             | [] => rw [hD] at h; exact absurd (by simp) h)
theorem rinv_norm {Dn Bs : List (List Nat)} (I : RInv rows Dn Bs) : RInv rows [] (Dn ++ Bs) := ⟨I.perm, I.pw, I.up⟩
theorem mrg_len (A B : List Nat) : (mrg rows A B).length = A.length + B.length := by rw [(mrg_perm A B).length_eq, List.length_append]
theorem todo_step {Dn Bs : List (List Nat)} {A B : List Nat} : todo Dn (A :: B :: Bs) = [Dn.flatten.length, Dn.flatten.length + A.length, Dn.flatten.length + A.length + B.length] :: todo (Dn ++ [mrg rows A B]) Bs := by
  unfold todo
  simp only [List.map_cons, rndS, rndM, List.cons_append, List.map_append, List.flatten_append, List.length_append, List.flatten_cons, List.flatten_nil, mrg_len, List.map_nil, List.append_assoc, List.nil_append, List.append_nil, Nat.add_assoc]
theorem rinv_step {Dn Bs : List (List Nat)} {A B : List Nat} (I : RInv rows Dn (A :: B :: Bs)) : RInv rows (Dn ++ [mrg rows A B]) Bs := by
  have h := List.pairwise_append.mp I.up
  obtain ⟨u1, u2, u3⟩ := h
  obtain ⟨v1, v2⟩ := List.pairwise_cons.mp u2
  obtain ⟨w1, w2⟩ := List.pairwise_cons.mp v2
  have mm : ∀ x, x ∈ mrg rows A B → x ∈ A ∨ x ∈ B := fun x hx => List.mem_append.mp ((mrg_perm A B).mem_iff.mp hx)
  refine ⟨?_, fun C hC => ?_, ?_⟩
  · refine List.Perm.trans ?_ I.perm
    simp only [List.flatten_append, List.flatten_cons, List.flatten_nil, List.append_nil, List.append_assoc]
    refine List.Perm.append_left _ ?_
    rw [← List.append_assoc A]
    exact (mrg_perm A B).append_right _
  · rw [List.append_assoc] at hC
    rcases List.mem_append.mp hC with hC | hC
    · exact I.pw C (List.mem_append_left _ hC)
    · rcases List.mem_cons.mp hC with rfl | hC
      · exact mrg_pair A B (I.pw A (by simp)) (I.pw B (by simp)) (v1 B (List.mem_cons_self ..))
      · exact I.pw C (by simp at hC; simp [hC])
  · rw [List.append_assoc]
    refine List.pairwise_append.mpr ⟨u1, List.pairwise_cons.mpr ⟨fun C hC x hx y hy => ?_, w2⟩, fun C hC E hE x hx y hy => ?_⟩
    · rcases mm x hx with hx | hx
      · exact v1 C (List.mem_cons_of_mem _ hC) x hx y hy
      · exact w1 C hC x hx y hy
    · rcases List.mem_cons.mp hE with rfl | hE
      · rcases mm y hy with hy | hy
        · exact u3 C hC A (by simp) x hx y hy
        · exact u3 C hC B (by simp) x hx y hy
      · exact u3 C hC E (by simp at hE; simp [hE]) x hx y hy
theorem rinv_end {Dn Bs : List (List Nat)} (I : RInv rows Dn Bs) (h : (Dn ++ Bs).length < 2) : IsOrd (rlt rows) rows.length (Dn ++ Bs).flatten := by
  have hp := I.perm
  have hw := I.pw
  generalize Dn ++ Bs = L at h hp hw
  match L, h with
  | [], _ => exact ⟨hp, List.Pairwise.nil⟩
  | [A], _ => exact ⟨hp, by simpa using hw A (by simp)⟩
  | _ :: _ :: _, h => simp at h; omega
theorem rinv0 {Bs : List (List Nat)} (I : RunInv rows rows.length Bs) : RInv rows [] Bs := by
  refine ⟨by rw [List.nil_append, I.flat], I.pw, ?_⟩
  rw [List.nil_append]
  have := List.pairwise_lt_range (n := rows.length)
  rw [← I.flat, List.pairwise_flatten] at this
  exact this.2
end
end Fs

set_option maxHeartbeats 4000000
/-! Putting in order by the runs. -/
namespace Fs
open PySem PySem.Spec PyProof.Rows L2
theorem ixN_last (n : Nat) : ixN (n + 1) (-1) = some n := by
  unfold ixN
  rw [if_neg (by omega), if_pos (by omega)]
  congr 1
  omega
theorem lex_nat : ∀ r s : List Nat, HT.lexLt (r.map fun n : Nat => (n : Int)) (s.map fun n : Nat => (n : Int)) = decide (r < s)
  | [], [] => rfl
  | [], y :: s => by rw [decide_eq_true (nil_lt y s)]; rfl
  | x :: r, [] => by rw [decide_eq_false (not_lt_nil _)]; rfl
  | x :: r, y :: s => by
    rw [List.map_cons, List.map_cons, HT.lexLt_cons, lex_nat r s]
    by_cases h : x = y
    · subst h
      rw [if_pos rfl]
      exact decide_eq_decide.mpr ⟨fun h => (cons_lt _ _ _ _).mpr (.inr ⟨rfl, h⟩), fun h => by
        rcases (cons_lt _ _ _ _).mp h with h | h
        · omega
        · exact h.2⟩
    · rw [if_neg (show ¬ (x : Int) = (y : Int) by omega)]
      exact decide_eq_decide.mpr ⟨fun h => (cons_lt _ _ _ _).mpr (.inl (by omega)), fun h => by rcases (cons_lt _ _ _ _).mp h with h | h <;> omega⟩
section
variable {P : Program} {w : World} {K : PySem.W.Frag} {mg : Str → Option Value} {base : Heap} {T : TL}
theorem row_lt {H : Hp} {a b : Addr} {r s : List Nat} {Q : VK} (ha : SqT K H a (r.map nv)) (hb : SqT K H b (s.map nv)) (q : Q (.bl (decide (r < s))) H) : rLtT K (.ref a) (.ref b) H Q :=
  ⟨a, b, r.map fun n : Nat => (n : Int), s.map fun n : Nat => (n : Int), rfl, rfl, by rw [← nvs]; exact ha, by rw [← nvs]; exact hb, by rw [lex_nat]; exact q⟩
def sp_runs (K : PySem.W.Frag) (T : TL) : Sp := fun vs H Q _ => ∃ (G : Hp) (l : List (Addr × HO)) (a : Addr) (us : List V) (rows : List (List Nat)), vs = [.ref a] ∧ Own T G H l ∧ SqL K G a us ∧ Rows K G us rows ∧ rows.length ≤ 200 ∧
  ∀ H' p Bs, Own T G H' ((p, .lst ((Bs.map List.length).map nv)) :: l) → RunInv rows rows.length Bs → Q (.ref p) H'
theorem sc_runs : FnScope ["rows", "found", "k", "row"] ["rows"] (defScope s_runs) := ⟨rfl, rfl, rfl, by decide +kernel, rfl, by decide +kernel, by decide +kernel⟩
theorem cal_runs (t : Ctx K mg base T) : Cal P w K mg base 1 "runs" ["rows"] (sp_runs K T) := by
  refine cal_of t.d_runs t.g_runs sc_runs (fun _ _ _ _ _ _ us hl => match us, hl with | [_], _ => rfl) (fun vs H Q E h => ?_) (fun cdv A outer s H vs Q E hr h => ?_)
  · obtain ⟨G, l, a, us, rows, rfl, _⟩ := h
    rfl
  · obtain ⟨G, l, a, us, rows, rfl, O, ha, he, hn, q⟩ := h
    refine ⟨_, (pss_cons (ps_set (i := 1) sc_runs.nd rfl (.inl rfl) (pe_lst pa_nil))
      (pss_cons (ps_for PassesOwn.never rfl (pi_enum (by rfl) t.enumerate (pa_cons (pv 0) pa_nil)) (pg_tup (by rfl) (pgs_cons (pg_name (i := 2) sc_runs.nd rfl (.inl rfl)) (pgs_cons (pg_name (i := 3) sc_runs.nd rfl (.inl rfl)) pgs_nil)))
        (pss_cons (ps_if (PW.pt (pw_or (pt_cmpR op_eq (pv 2) pe_int (nomark _)) (pw_or1 (pt_cmpR (ltT hr.units0) (pe_callTy tupT (by rfl) t.tuple (by decide +kernel) (pa_cons (pv 3) pa_nil)) (pe_callTy tupT (by rfl) t.tuple (by decide +kernel) (pa_cons (pe_ix ixL (pv 0) (pe_op op_sub (pv 2) pe_int) (fun _ _ => rfl)) pa_nil)) (nomark _)))))
          (pss_one (ps_expr (bmK PySem.F.plainAttrs_list PySem.F.slot_list_append PySem.F.type_list_append mt_append (pv 1) (pa_cons pe_int pa_nil))))
          pss_nil)
        (pss_one (ps_augS (pv 1) (pe_un un_neg pe_int) getL pe_int ip_add set_list))))
      (pss_one (ps_ret (pv 1))))), ?_⟩
    refine ⟨Nat.zero_le _, fun p n0 => ?_⟩
    have O1 := own_new (o := .lst []) O n0
    have hl := he.1
    refine ⟨.ref a, rfl, a, us, rfl, O1.seq ha, for_it walk_enum (fun i σ H' => ∃ y2 y3 Bs, σ = [some (.ref a), some (.ref p), y2, y3] ∧ Own T G H' ((p, .lst ((Bs.map List.length).map nv)) :: l) ∧ RunInv rows i Bs) ⟨none, none, [], rfl, O1, run0⟩ (fun i σ H' _ ⟨_, _, _, _, O2, _⟩ => O2.seq ha) (fun i x σ H4 H5 hi ⟨y2, y3, Bs, e, O2, I⟩ hy => ?_) (fun σ H4 ⟨y2, y3, Bs, e, O2, I⟩ => ?_)⟩
    · subst e
      obtain ⟨Tp, x1, x2, rfl, nT, rfl, e1, e2⟩ := hy
      obtain rfl : .int (i : Int) = x1 := Option.some.inj e1
      obtain ⟨t, et, ht, er⟩ := row_at he O2.sub (p := i) (by omega)
      obtain rfl : V.ref t = x2 := Option.some.inj (et.symm.trans e2)
      have O3 := own_new (o := .tup [nv i, .ref t]) O2 nT
      have tail : ∀ (L : List Nat) (m : Nat) (Bs2 : List (List Nat)) (Dd : Ends) (H' : Hp), Own T G H' ((Tp, .tup [nv i, .ref t]) :: (p, .lst ((L ++ [m]).map nv)) :: l) → Bs2.map List.length = L ++ [m + 1] → RunInv rows (i + 1) Bs2 →
          Dd.nx = (fun σ H' => ∃ y2 y3 Bs, σ = [some (.ref a), some (.ref p), y2, y3] ∧ Own T G H' ((p, .lst ((Bs.map List.length).map nv)) :: l) ∧ RunInv rows (i + 1) Bs) →
          tAugS (tVar 1) (tUn (rU fun i => V.int (-i)) (tC (.int 1))) (tC (.int 1)) (rIxL K) (ipI fun i j => i + j) rSetL Dd [some (.ref a), some (.ref p), some (nv i), some (.ref t)] H' := by
        intro L m Bs2 Dd H' OA e2 I2 hD
        have e3 : (L ++ [m]).map nv = L.map nv ++ [nv m] := by rw [List.map_append]; rfl
        refine ⟨.ref p, rfl, _, rfl, p, _, _, _, rfl, rfl, .inl (.inl OA.l1), by rw [e3]; exact atI_last _ _, _, _, rfl, rfl, p, _, _, L.length, rfl, rfl, OA.l1, ?_, ?_⟩
        · rw [List.length_map, List.length_append, List.length_singleton]
          exact ixN_last _
        · rw [hD]
          refine ⟨some (nv i), some (.ref t), Bs2, rfl, ?_, I2⟩
          rw [e2]
          have e4 : ((L ++ [m]).map nv).set L.length (nv (m + 1)) = (L ++ [m + 1]).map nv := by
            rw [map_set', List.set_append_right _ _ (Nat.le_refl _), Nat.sub_self]
            rfl
          rw [show V.int (((m : Nat) : Int) + 1) = nv (m + 1) from rfl, e4]
          exact own_set OA.drop 0 rfl
      refine ⟨Tp, _, rfl, .inl (.inl O3.l0), rfl, nv i, _, rfl, .ref t, _, rfl, rfl, nv i, rfl, rfl, _, rfl, ite2 (fun h => ?_) (fun h => ?_)⟩
      · refine iteT ?_
        have h0 : i = 0 := by
          have := of_decide_eq_true h
          injection this with this
          omega
        subst h0
        refine ⟨.ref p, rfl, .inl ⟨rfl, _, .inl (.inl O3.l1)⟩, p, _, _, rfl, rfl, O3.l1, szm (n := 0) (by rw [List.length_map]; have := I.flat; have := I.ne; cases Bs with | nil => simp | cons B Bs => exfalso; have hB := I.ne B (by simp); have fl := I.flat; simp at fl; exact hB fl.1) (by omega), ?_⟩
        refine tail (Bs.map List.length) 0 (Bs ++ [[0]]) _ _ ?_ (by simp) (run_new I) rfl
        rw [List.map_append]
        exact own_set O3 1 rfl
      · have h0 : i ≠ 0 := fun e => h (decide_eq_true (by rw [e]; rfl))
        obtain ⟨k, rfl⟩ : ∃ k, i = k + 1 := ⟨i - 1, by omega⟩
        obtain ⟨t2, et2, ht2, er2⟩ := row_at he O3.sub (p := k) (by omega)
        refine ⟨.ref t, rfl, t, _, rfl, Same.tup (same_upd nT) ht, .ref a, rfl, nv (k + 1), rfl, _, _, rfl, rfl, a, us, _, _, rfl, rfl, O3.seq ha, ?_, t2, _, rfl, ht2, row_lt (Same.tup (same_upd nT) ht) ht2 ⟨_, rfl, ?_⟩⟩
        · rw [show (((k + 1 : Nat) : Int) - 1) = (k : Int) by omega]
          exact atI_v et2
        · have bl : Bs.length ≤ k + 1 := by
            have e := congrArg List.length I.flat
            rw [List.length_flatten, List.length_range] at e
            have : ∀ L : List (List Nat), (∀ B ∈ L, B ≠ []) → L.length ≤ (L.map List.length).sum := by
              intro L
              induction L with
              | nil => intro _; simp
              | cons B L ih =>
                intro h
                have := ih fun C hC => h C (List.mem_cons_of_mem _ hC)
                have := List.length_pos_iff.mpr (h B (List.mem_cons_self ..))
                rw [List.length_cons, List.map_cons, List.sum_cons]
                omega
            rw [← e]
            exact this Bs I.ne
          refine ite2 (fun h => ?_) (fun h => ?_)
          · refine ⟨.ref p, rfl, .inl ⟨rfl, _, .inl (.inl O3.l1)⟩, p, _, _, rfl, rfl, O3.l1, szm (n := 1000) (by rw [List.length_map]; omega) (by omega), ?_⟩
            refine tail (Bs.map List.length) 0 (Bs ++ [[k + 1]]) _ _ ?_ (by simp) (run_new I) rfl
            rw [List.map_append]
            exact own_set O3 1 rfl
          · obtain ⟨Cs, B, rfl⟩ : ∃ Cs B, Bs = Cs ++ [B] := by
              have hne : Bs ≠ [] := fun e => by
                have := I.flat
                rw [e] at this
                simp at this
              exact ⟨Bs.dropLast, Bs.getLast hne, (List.dropLast_concat_getLast hne).symm⟩
            refine tail (Cs.map List.length) B.length (Cs ++ [B ++ [k + 1]]) _ _ ?_ (by simp) (run_more I fun z => h (decide_eq_true z)) rfl
            have e5 : (Cs ++ [B]).map List.length = Cs.map List.length ++ [B.length] := by simp
            rw [← e5]
            exact O3
    · subst e
      rw [hl] at I
      exact ⟨_, rfl, q _ _ _ O2 I⟩
/-! ### merged -/
def sp_merged (K : PySem.W.Frag) (T : TL) : Sp := fun vs H Q _ => ∃ (G : Hp) (l : List (Addr × HO)) (a b : Addr) (us ws : List V) (one other : List (List Nat)), vs = [.ref a, .ref b] ∧ Own T G H l ∧ SqL K G a us ∧ Rows K G us one ∧ SqL K G b ws ∧ Rows K G ws other ∧ one.length ≤ 200 ∧ other.length ≤ 200 ∧
  ∀ G' H' p pv, Same G G' → Own T G' H' ((p, .lst pv) :: l) → Rows K G' pv (mp one 0 other 0) → Q (.ref p) H'
theorem drop_at {α : Type} {xs : List α} {i : Nat} {x : α} (h : xs[i]? = some x) : xs.drop i = x :: xs.drop (i + 1) := by
  obtain ⟨hi, e⟩ := List.getElem?_eq_some_iff.mp h
  rw [List.drop_eq_getElem_cons hi, e]
theorem sc_merged : FnScope ["one", "other", "found", "at", "place", "row"] ["one", "other"] (defScope s_merged) := ⟨rfl, rfl, rfl, by decide +kernel, rfl, by decide +kernel, by decide +kernel⟩
theorem cal_merged (t : Ctx K mg base T) : Cal P w K mg base 1 "merged" ["one", "other"] (sp_merged K T) := by
  refine cal_of t.d_merged t.g_merged sc_merged (fun _ _ _ _ _ _ us hl => match us, hl with | [_, _], _ => rfl) (fun vs H Q E h => ?_) (fun cdv A outer s H vs Q E hr h => ?_)
  · obtain ⟨G, l, a, b, us, ws, one, other, rfl, _⟩ := h
    rfl
  · obtain ⟨G, l, a, b, us, ws, one, other, rfl, O, ha, he, hb, hf, h1, h2, q⟩ := h
    refine ⟨_, (pss_cons (ps_set (i := 2) sc_merged.nd rfl (.inl rfl) (pe_lst pa_nil))
      (pss_cons (ps_set (i := 3) sc_merged.nd rfl (.inl rfl) pe_int)
      (pss_cons (ps_for PassesOwn.never rfl (pi_enum (by rfl) t.enumerate (pa_cons (pv 1) pa_nil)) (pg_tup (by rfl) (pgs_cons (pg_name (i := 4) sc_merged.nd rfl (.inl rfl)) (pgs_cons (pg_name (i := 5) sc_merged.nd rfl (.inl rfl)) pgs_nil)))
        (pss_cons (ps_while PassesOwn.never (PW.pt (pw_and (pt_cmpR op_lt (pv 3) (pe_callB lenK (by rfl) t.len (by decide +kernel) (pa_cons (pv 0) pa_nil)) (nomark _)) (pw_and1 (pt_not (pt_cmpR (ltT hr.units0) (pe_callTy tupT (by rfl) t.tuple (by decide +kernel) (pa_cons (pv 5) pa_nil)) (pe_callTy tupT (by rfl) t.tuple (by decide +kernel) (pa_cons (pe_ix ixL (pv 0) (pv 3) (fun _ _ => rfl)) pa_nil)) (nomark _))))))
          (pss_cons (ps_expr (bmK PySem.F.plainAttrs_list PySem.F.slot_list_append PySem.F.type_list_append mt_append (pv 2) (pa_cons (pe_tup (pa_cons pe_int (pa_cons (pv 3) pa_nil))) pa_nil)))
          (pss_one (ps_aug (i := 3) sc_merged.nd rfl (.inl rfl) pe_int ip_add))))
        (pss_one (ps_expr (bmK PySem.F.plainAttrs_list PySem.F.slot_list_append PySem.F.type_list_append mt_append (pv 2) (pa_cons (pe_tup (pa_cons pe_int (pa_cons (pv 4) pa_nil))) pa_nil))))))
      (pss_one (ps_ret (pe_op op_cat (pv 2) (pe_lc (own := [("place", 4)]) (g := gName 4) (tt := tYes) (by rfl) sc_merged.nd (pi_range2 (by rfl) t.range (pa_cons (pv 3) (pa_cons (pe_callB lenK (by rfl) t.len (by decide +kernel) (pa_cons (pv 0) pa_nil)) pa_nil))) (blkOk_by (own := [("place", 4)]) (N := ["one", "other", "found", "at", "place", "row"]) (sc := defScope s_merged) (by decide +kernel)) (fun _ _ _ _ _ => (pg_name (i := 4) sc_merged.nd rfl (.inl rfl))) (fun _ _ _ _ _ => pts_nil) (fun _ _ _ _ _ => (pe_tup (pa_cons pe_int (pa_cons (pv 4) pa_nil))))))))))), ?_⟩
    have hla := he.1
    have hlb := hf.1
    refine ⟨Nat.zero_le _, fun p n0 => ?_⟩
    have O1 := own_new (o := .lst []) O n0
    refine ⟨.ref b, rfl, b, ws, rfl, O1.seq hb, for_it walk_enum (fun i σ H' => ∃ y4 y5 G' pv F at', σ = [some (.ref a), some (.ref b), some (.ref p), some (nv at'), y4, y5] ∧ Same G G' ∧ Own T G' H' ((p, .lst pv) :: l) ∧ Rows K G' pv F ∧ at' ≤ one.length ∧ F ++ mp (one.drop at') at' (other.drop i) i = mp one 0 other 0)
      ⟨none, none, G, [], [], 0, rfl, Same.refl _, O1, Each.nil, Nat.zero_le _, by simp⟩ (fun i σ H' _ ⟨_, _, _, _, _, _, _, s, O2, _⟩ => O2.seq (s.seq hb)) (fun i x σ H4 H5 hi ⟨y4, y5, G', pv, F, at', e, s, O2, hP, hat, hF⟩ hy => ?_) (fun σ H4 ⟨y4, y5, G', pv, F, at', e, s, O2, hP, hat, hF⟩ => ?_)⟩
    · subst e
      obtain ⟨Tp, x1, x2, rfl, nT, rfl, e1, e2⟩ := hy
      obtain rfl : .int (i : Int) = x1 := Option.some.inj e1
      obtain ⟨t, et, ht, er⟩ := row_at hf (s.trans O2.sub) (p := i) (by omega)
      obtain rfl : V.ref t = x2 := Option.some.inj (et.symm.trans e2)
      have O3 := own_new (o := .tup [nv i, .ref t]) O2 nT
      have ht3 : SqT K (upd H4 Tp (.tup [nv i, .ref t])) t ((row other i).map nv) := Same.tup (same_upd nT) ht
      have ed := drop_at er
      have hrt : RowN K G (.ref t) (row other i) := hf.2 i _ _ et er
      refine ⟨Tp, _, rfl, .inl (.inl O3.l0), rfl, nv i, _, rfl, .ref t, _, rfl, rfl, ?_⟩
      rw [ed] at hF
      refine ⟨fun m σ H' => ∃ G' pv F at', σ = [some (.ref a), some (.ref b), some (.ref p), some (nv at'), some (nv i), some (.ref t)] ∧ Same G G' ∧ Own T G' H' ((p, .lst pv) :: l) ∧ Rows K G' pv F ∧ at' ≤ one.length ∧ m = one.length - at' ∧ F ++ mp (one.drop at') at' (row other i :: other.drop (i + 1)) i = mp one 0 other 0, ⟨_, G', pv, F, at', rfl, s, O3.drop, hP, hat, rfl, hF⟩, fun m σ H6 ⟨G6, pv, F, at', e, s, O6, hP, hat, hm, hF⟩ => ?_⟩
      subst e
      have hFl : F.length ≤ 400 := by
        have := congrArg List.length hF
        rw [List.length_append, mp_len, mp_len] at this
        omega
      have fin : (at' = one.length ∨ ∃ x tl, one.drop at' = x :: tl ∧ row other i < x) → tDrop (tBM K "list" rAppend (tVar 2) (tCons (tTup (tCons (tC (.int 1)) (tCons (tVar 4) tNil))) tNil)) ({ nx := fun σ H' => ∃ y4 y5 G' pv F at', σ = [some (.ref a), some (.ref b), some (.ref p), some (nv at'), y4, y5] ∧ Same G G' ∧ Own T G' H' ((p, .lst pv) :: l) ∧ Rows K G' pv F ∧ at' ≤ one.length ∧ F ++ mp (one.drop at') at' (other.drop (i + 1)) (i + 1) = mp one 0 other 0, rt := Q, bk := fun _ _ => False, ct := fun _ _ => False } : Ends)
          [some (.ref a), some (.ref b), some (.ref p), some (nv at'), some (nv i), some (.ref t)] H6 := by
        intro hs
        refine ⟨.ref p, rfl, .inl ⟨rfl, _, .inl (.inl O6.l0)⟩, nv i, rfl, two_ok, fun tp ntp => ?_⟩
        have O7 := own_new (o := .tup ([1, i].map nv)) O6 ntp
        refine ⟨p, pv, _, rfl, rfl, O7.l1, sz' (by rw [hP.1]; omega), some (nv i), some (.ref t), _, pv ++ [V.ref tp], F ++ [[1, i]], at', rfl, s.trans O7.gup, own_set O7.frz 0 rfl, (hP.up O7.gup).snoc ⟨tp, rfl, .inl (.inl upd_same)⟩, hat, ?_⟩
        rw [← hF, List.append_assoc]
        congr 1
        rcases hs with hs | ⟨x, tl, e1, e2⟩
        · rw [hs, List.drop_length]
          rw [mp]
          rfl
        · rw [e1]
          conv => rhs; rw [mp]
          rw [if_pos e2]
          rfl
      refine ⟨nv at', rfl, .ref a, rfl, a, us, rfl, .inl (O6.seq (s.seq ha)), _, _, rfl, rfl, _, rfl, ite2 (fun h => ?_) (fun h => ?_)⟩
      · have hlt : at' < one.length := by
          have := of_decide_eq_true h
          omega
        obtain ⟨t2, et2, ht2, er2⟩ := row_at he (s.trans O6.sub) (p := at') hlt
        have ed2 := drop_at er2
        refine ⟨.ref t, rfl, t, _, rfl, Same.tup (s.trans O6.sub) (by obtain ⟨t', e', h'⟩ := hrt; cases e'; exact h'), .ref a, rfl, nv at', rfl, a, us, _, _, rfl, rfl, O6.seq (s.seq ha), atI_v et2, t2, _, rfl, ht2, row_lt (r := row other i) (s := row one at') (Same.tup (s.trans O6.sub) (by obtain ⟨t', e', h'⟩ := hrt; cases e'; exact h')) ht2 ⟨_, rfl, ?_⟩⟩
        by_cases hr : row other i < row one at'
        · rw [decide_eq_true hr]
          refine iteF ?_
          exact fin (.inr ⟨_, _, ed2, hr⟩)
        · rw [decide_eq_false hr]
          refine iteT ?_
          refine ⟨fun σ' H'' => ∃ m', m' < m ∧ ∃ G' pv F at', σ' = [some (.ref a), some (.ref b), some (.ref p), some (nv at'), some (nv i), some (.ref t)] ∧ Same G G' ∧ Own T G' H'' ((p, .lst pv) :: l) ∧ Rows K G' pv F ∧ at' ≤ one.length ∧ m' = one.length - at' ∧ F ++ mp (one.drop at') at' (row other i :: other.drop (i + 1)) i = mp one 0 other 0, fun _ _ h => h, ?_⟩
          refine ⟨.ref p, rfl, .inl ⟨rfl, _, .inl (.inl O6.l0)⟩, nv at', rfl, two_ok, fun tp ntp => ?_⟩
          have O7 := own_new (o := .tup ([0, at'].map nv)) O6 ntp
          refine ⟨p, pv, _, rfl, rfl, O7.l1, sz' (by rw [hP.1]; omega), nv at', rfl, _, _, rfl, rfl, one.length - (at' + 1), by omega, _, pv ++ [V.ref tp], F ++ [[0, at']], at' + 1, rfl, s.trans O7.gup, own_set O7.frz 0 rfl, (hP.up O7.gup).snoc ⟨tp, rfl, .inl (.inl upd_same)⟩, hlt, rfl, ?_⟩
          rw [← hF, List.append_assoc]
          congr 1
          rw [ed2]
          conv => rhs; rw [mp]
          rw [if_neg hr]
          rfl
      · refine iteF ?_
        refine fin (.inl ?_)
        have h0 : ¬ at' < one.length := fun h0 => h (decide_eq_true (by omega : (at' : Int) < (us.length : Int)))
        omega
    · subst e
      rw [hlb, List.drop_length, mp] at hF
      have hFl : F.length ≤ 400 := by
        have := congrArg List.length hF
        rw [List.length_append, mp_len] at this
        omega
      refine ⟨.ref p, rfl, nv at', rfl, .ref a, rfl, a, us, rfl, .inl (O2.seq (s.seq ha)), _, _, rfl, ⟨by omega, by omega, by omega, by omega⟩, fun D nD => ?_⟩
      have en : (((us.length : Nat) : Int) - (at' : Int)).toNat = (one.drop at').length := by rw [List.length_drop]; omega
      rw [en]
      refine lc_own (ys := (List.range (one.drop at').length).map fun i => at' + i) walk_range O2 nD (by simp) (by rw [List.length_drop]; omega) (R := fun G v i => RowN K G v [0, i]) (fun _ _ _ _ s h => RowN.up s h) (fun _ _ => trivial) (fun j x y G1 H1 H2 acc Qc hj ey s1 O3 hy hQ => ?_) (fun G3 H3 vs s3 O3 he3 => ?_)
      · obtain ⟨rfl, rfl⟩ := hy
        obtain rfl : y = at' + j := by
          rw [List.getElem?_map, List.getElem?_range hj] at ey
          exact (Option.some.inj ey).symm
        refine ⟨rfl, V.int ((at' : Int) + (j : Nat)), rfl, two_ok, fun tp ntp => ?_⟩
        have O4 := own_new (o := .tup ([0, at' + j].map nv)) O3 ntp
        exact hQ _ _ _ O4.gup O4.frz ⟨tp, rfl, .inl (.inl upd_same)⟩
      · have hl3 : vs.length = (one.drop at').length := by rw [he3.1]; simp
        refine ⟨p, D, pv, vs, rfl, rfl, O3.l1, O3.l0, sz (by rw [hP.1, hl3, List.length_drop]; omega), fun z nz => ?_⟩
        refine q G3 _ z (pv ++ vs) (s.trans s3) (own_new O3.drop.drop nz) ?_
        · rw [← hF]
          refine (hP.up s3).app ⟨by rw [he3.1]; simp, fun i v x h1 h2 => ?_⟩
          rw [List.getElem?_map] at h2
          cases e : (List.range (one.drop at').length)[i]? with
          | none => rw [e] at h2; cases h2
          | some k =>
            rw [e] at h2
            obtain rfl := Option.some.inj h2
            exact he3.2 i v (at' + k) h1 (by rw [List.getElem?_map, e]; rfl)
/-! ### rounds -/
theorem rgc2 {n : Nat} (h : n ≤ 1000) : RgC 0 ((n : Int) - 1) 2 (n / 2) := by
  have e : Builtin.Range.rangeSize 0 ((n : Int) - 1) 2 = ((n / 2 : Nat) : Int) := by
    unfold Builtin.Range.rangeSize
    rw [if_pos (by decide)]
    split <;> omega
  refine ⟨by decide, by decide, ?_, e⟩
  unfold Builtin.Range.small
  rw [e]
  simp only [Builtin.Range.rangeFitsLong, Bool.and_eq_true, Bool.or_eq_true, decide_eq_true_eq, beq_iff_eq]
  rw [if_pos (by decide)]
  simp only [decide_eq_true_eq, Bool.and_eq_true]
  omega
theorem two_more {L : List Nat} {i : Nat} (h : 2 * i + 1 < L.length) : ∃ a b, L[2 * i]? = some a ∧ L[2 * i + 1]? = some b ∧ L.drop (2 * i) = a :: b :: L.drop (2 * (i + 1)) := by
  have e1 : L[2 * i]? = some L[2 * i] := List.getElem?_eq_getElem (by omega)
  have e2 : L[2 * i + 1]? = some L[2 * i + 1] := List.getElem?_eq_getElem h
  exact ⟨_, _, e1, e2, by rw [drop_at e1, drop_at e2]; rfl⟩
theorem rnd_short {L : List Nat} (h : L.length < 2) (f : Nat) : rndS f L = [] ∧ rndM L = L := by
  match L, h with
  | [], _ => exact ⟨rfl, rfl⟩
  | [a], _ => exact ⟨rfl, rfl⟩
  | _ :: _ :: _, h => simp at h; omega
def sp_round_of (K : PySem.W.Frag) (T : TL) : Sp := fun vs H Q _ => ∃ (G : Hp) (l : List (Addr × HO)) (a : Addr) (L : List Nat), vs = [.ref a] ∧ Own T G H l ∧ NL K G a L ∧ L.length ≤ 200 ∧
  ∀ G' H' p sl ml sv, Same G G' → Own T G' H' ((sl, .lst sv) :: l) → SqT K G' p [.ref sl, .ref ml] → Rows K G' sv (rndS 0 L) → NL K G' ml (rndM L) → Q (.ref p) H'
theorem sc_round_of : FnScope ["lengths", "steps", "made", "first", "k", "middle", "last"] ["lengths"] (defScope s_round_of) := ⟨rfl, rfl, rfl, by decide +kernel, rfl, by decide +kernel, by decide +kernel⟩
theorem cal_round_of (t : Ctx K mg base T) : Cal P w K mg base 1 "round_of" ["lengths"] (sp_round_of K T) := by
  refine cal_of t.d_round_of t.g_round_of sc_round_of (fun _ _ _ _ _ _ us hl => match us, hl with | [_], _ => rfl) (fun vs H Q E h => ?_) (fun cdv A outer s H vs Q E hr h => ?_)
  · obtain ⟨G, l, a, L, rfl, _⟩ := h
    rfl
  · obtain ⟨G, l, a, L, rfl, O, ha, hn, q⟩ := h
    refine ⟨_, (pss_cons (ps_set (i := 1) sc_round_of.nd rfl (.inl rfl) (pe_lst pa_nil))
      (pss_cons (ps_set (i := 2) sc_round_of.nd rfl (.inl rfl) (pe_lst pa_nil))
      (pss_cons (ps_set (i := 3) sc_round_of.nd rfl (.inl rfl) pe_int)
      (pss_cons (ps_for PassesOwn.never rfl (pi_range3 rfl t.range (pa_cons pe_int (pa_cons (pe_op op_sub (pe_callB lenK (by rfl) t.len (by decide +kernel) (pa_cons (pv 0) pa_nil)) pe_int) (pa_cons pe_int pa_nil)))) (pg_name (i := 4) sc_round_of.nd rfl (.inl rfl))
        (pss_cons (ps_set (i := 5) sc_round_of.nd rfl (.inl rfl) (pe_op op_add (pv 3) (pe_ix ixL (pv 0) (pv 4) (fun _ _ => rfl))))
        (pss_cons (ps_set (i := 6) sc_round_of.nd rfl (.inl rfl) (pe_op op_add (pv 5) (pe_ix ixL (pv 0) (pe_op op_add (pv 4) pe_int) (fun _ _ => rfl))))
        (pss_cons (ps_expr (bmK PySem.F.plainAttrs_list PySem.F.slot_list_append PySem.F.type_list_append mt_append (pv 1) (pa_cons (pe_tup (pa_cons (pv 3) (pa_cons (pv 5) (pa_cons (pv 6) pa_nil)))) pa_nil)))
        (pss_cons (ps_expr (bmK PySem.F.plainAttrs_list PySem.F.slot_list_append PySem.F.type_list_append mt_append (pv 2) (pa_cons (pe_op op_sub (pv 6) (pv 3)) pa_nil)))
        (pss_one (ps_set (i := 3) sc_round_of.nd rfl (.inl rfl) (pv 6))))))))
      (pss_one (ps_ret (pe_tup (pa_cons (pv 1) (pa_cons (pe_op op_cat (pv 2) (pe_callTy listOf (by rfl) t.list (by decide +kernel) (pa_cons (pe_slice slL (pv 0) (po_some (pe_op op_mul pe_int (pe_callB lenK (by rfl) t.len (by decide +kernel) (pa_cons (pv 1) pa_nil)))) po_none) pa_nil))) pa_nil))))))))), ?_⟩
    refine ⟨Nat.zero_le _, fun ps n0 => ?_⟩
    have O1 := own_new (o := .lst []) O n0
    refine ⟨Nat.zero_le _, fun pm n1 => ?_⟩
    have O2 := own_new (o := .lst (([] : List Nat).map nv)) O1 n1
    refine ⟨.ref a, rfl, a, _, rfl, .inl (O2.seq ha), _, _, rfl, rfl, 0, _, 2, L.length / 2, rfl, by rw [List.length_map]; exact rgc2 (by omega), ?_⟩
    refine for_it walk_rangeC (fun i σ H' => ∃ y4 y5 y6 G' sv S M f, σ = [some (.ref a), some (.ref ps), some (.ref pm), some (nv f), y4, y5, y6] ∧ Same G G' ∧ Own T G' H' ((pm, .lst (M.map nv)) :: (ps, .lst sv) :: l) ∧ Rows K G' sv S ∧ S.length = i ∧ M.length = i ∧ S ++ rndS f (L.drop (2 * i)) = rndS 0 L ∧ M ++ rndM (L.drop (2 * i)) = rndM L)
      ⟨none, none, none, G, [], [], [], 0, rfl, Same.refl _, by exact O2, Each.nil, rfl, rfl, rfl, rfl⟩ (fun _ _ _ _ _ => trivial) (fun i x σ H4 H5 hi ⟨y4, y5, y6, G', sv, S, M, f, e, s, O4, hS, hl1, hl2, e1, e2⟩ hy => ?_) (fun σ H4 ⟨y4, y5, y6, G', sv, S, M, f, e, s, O4, hS, hl1, hl2, e1, e2⟩ => ?_)
    · subst e
      obtain ⟨rfl, rfl⟩ := hy
      obtain ⟨x, y, g1, g2, g3⟩ := two_more (L := L) (i := i) (by omega)
      rw [g3] at e1 e2
      refine ⟨nv f, rfl, .ref a, rfl, _, rfl, a, _, _, nv x, rfl, rfl, O4.seq (s.seq ha), ?_, _, _, rfl, rfl, ?_⟩
      · rw [show (0 : Int) + (i : Nat) * 2 = ((2 * i : Nat) : Int) by omega]
        exact atI_map g1
      refine ⟨nv (f + x), rfl, .ref a, rfl, _, rfl, _, _, rfl, rfl, a, _, _, nv y, rfl, rfl, O4.seq (s.seq ha), ?_, _, _, rfl, rfl, ?_⟩
      · rw [show (0 : Int) + (i : Nat) * 2 + 1 = ((2 * i + 1 : Nat) : Int) by omega]
        exact atI_map g2
      refine ⟨.ref ps, rfl, .inl ⟨rfl, _, .inl (.inl O4.l1)⟩, nv f, rfl, nv (f + x), rfl, nv (f + x + y), rfl, three_ok, fun tp ntp => ?_⟩
      have O5 := own_new (o := .tup ([f, f + x, f + x + y].map nv)) O4 ntp
      have s5 := O5.gup
      have hlen : sv.length = i := by rw [hS.1, hl1]
      refine ⟨ps, sv, _, rfl, rfl, O5.l2, sz' (by omega), ?_⟩
      have O6 := own_set (o' := .lst (sv ++ [V.ref tp])) O5.frz 1 rfl
      refine ⟨.ref pm, rfl, .inl ⟨rfl, _, .inl (.inl O6.l0)⟩, nv (f + x + y), rfl, nv f, rfl, _, _, rfl, rfl, pm, _, nv (x + y), rfl, ?_, O6.l0, szm (n := 1000) (by omega) (by omega), nv (f + x + y), rfl, ?_⟩
      · show [V.int (((f + x + y : Nat) : Int) - (f : Int))] = [V.int ((x + y : Nat) : Int)]
        rw [show ((f + x + y : Nat) : Int) - (f : Int) = ((x + y : Nat) : Int) by omega]
      · rw [map_snoc]
        refine ⟨_, some (nv (f + x)), some (nv (f + x + y)), _, sv ++ [V.ref tp], S ++ [[f, f + x, f + x + y]], M ++ [x + y], f + x + y, rfl, s.trans s5, own_set O6 0 rfl, (hS.up s5).snoc ⟨tp, rfl, .inl (.inl upd_same)⟩, by rw [List.length_append, hl1]; rfl, by rw [List.length_append, hl2]; rfl, ?_, ?_⟩
        · rw [← e1, List.append_assoc]
          rfl
        · rw [← e2, List.append_assoc]
          rfl
    · subst e
      have hsh : (L.drop (2 * (L.length / 2))).length < 2 := by rw [List.length_drop]; omega
      obtain ⟨r1, r2⟩ := rnd_short hsh f
      rw [r1, List.append_nil] at e1
      rw [r2] at e2
      have hlen : sv.length = L.length / 2 := by rw [hS.1, hl1]
      refine ⟨.ref ps, rfl, .ref pm, rfl, .ref a, rfl, .ref ps, rfl, ps, sv, rfl, .inl (.inl (.inl O4.l1)), _, _, rfl, rfl, .inl ⟨by omega, by omega⟩, _, rfl, a, _, rfl, O4.seq (s.seq ha), fun p1 n1 => ?_⟩
      have ec : cutV (L.map nv) (some ((2 : Int) * (sv.length : Nat))) none = (L.drop (2 * (L.length / 2))).map nv := by
        unfold cutV
        rw [show (2 : Int) * ((sv.length : Nat) : Int) = ((2 * (L.length / 2) : Nat) : Int) by omega, HT.sIx_nat, HT.sIx_none, List.length_map, Nat.min_eq_left (by omega), ← List.map_drop, ← List.map_take, List.take_of_length_le (by rw [List.length_drop]; omega)]
      rw [ec]
      have O5 := own_new (o := .lst ((L.drop (2 * (L.length / 2))).map nv)) O4 n1
      refine ⟨p1, _, rfl, .inl (.inl (.inl upd_same)), fun p2 n2 => ?_⟩
      have O6 := own_new (o := .lst ((L.drop (2 * (L.length / 2))).map nv)) O5.drop n2
      refine ⟨pm, p2, _, _, rfl, rfl, O6.l1, O6.l0, sz (by rw [List.length_map, List.length_map, hl2, List.length_drop]; omega), fun p3 n3 => ?_⟩
      rw [← List.map_append, e2]
      have O7 := own_new (o := .lst ((rndM L).map nv)) O6.drop.drop n3
      refine ⟨two_ok, fun p4 n4 => ?_⟩
      have O8 := own_new (o := .tup [.ref ps, .ref p3]) O7.frz n4
      have s7 := O7.gup
      have s8 := O8.gup
      rw [e1] at hS
      exact q _ _ p4 ps p3 sv ((s.trans s7).trans s8) O8.frz (.inl (.inl upd_same)) (hS.up (s7.trans s8)) (s8.seq (.inl (.inl upd_same)))
def sp_ahead_of_runs (K : PySem.W.Frag) (T : TL) : Sp := fun vs H Q _ => ∃ (G : Hp) (l : List (Addr × HO)) (a : Addr) (L : List Nat), vs = [.ref a] ∧ Own T G H l ∧ NL K G a L ∧ L.length ≤ 200 ∧
  ∀ G' H' p sl sv (z : Int), Same G G' → Own T G' H' l → SqT K G' p [.ref sl, .int z] → SqL K G' sl sv → Rows K G' sv (allS L) → Q (.ref p) H'
theorem rnd_three : ∀ (L : List Nat) (f : Nat), (∀ s ∈ rndS f L, s.length = 3) ∧ (rndS f L).length ≤ L.length
  | [], f => ⟨(fun s h => nomatch h), Nat.le_refl _⟩
  | [a], f => ⟨(fun s h => nomatch h), Nat.zero_le _⟩
  | a :: b :: r, f => by
    obtain ⟨h1, h2⟩ := rnd_three r (f + a + b)
    refine ⟨fun s h => ?_, ?_⟩
    · rcases List.mem_cons.mp h with rfl | h
      · rfl
      · exact h1 s h
    · rw [rndS, List.length_cons, List.length_cons, List.length_cons]
      omega
theorem all_three (L : List Nat) : (∀ s ∈ allS L, s.length = 3) ∧ (allS L).length ≤ L.length * L.length := by
  by_cases h : L.length < 2
  · rw [allS_small h]
    exact ⟨(fun s h => nomatch h), Nat.zero_le _⟩
  · rw [allS_more h]
    have hd := (rndM_len L).2 (by omega)
    obtain ⟨h1, h2⟩ := rnd_three L 0
    obtain ⟨g1, g2⟩ := all_three (rndM L)
    refine ⟨fun s hs => ?_, ?_⟩
    · rcases List.mem_append.mp hs with hs | hs
      · exact h1 s hs
      · exact g1 s hs
    · rw [List.length_append]
      have : (rndM L).length * (rndM L).length ≤ (L.length - 1) * L.length := Nat.mul_le_mul (by omega) (by omega)
      have e : L.length * L.length = (L.length - 1) * L.length + L.length := by
        obtain ⟨n, hn⟩ : ∃ n, L.length = n + 1 := ⟨L.length - 1, by omega⟩
        rw [hn, Nat.add_sub_cancel, Nat.add_mul, Nat.one_mul]
      omega
  termination_by L.length
  decreasing_by exact (rndM_len L).2 (by omega)
/-- last - first of such a triple -/
def span (s : List Nat) : Int := ((s.getD 2 0 : Nat) : Int) - ((s.getD 0 0 : Nat) : Int)
theorem three_of {s : List Nat} (h : s.length = 3) : ∃ a b c, s = [a, b, c] := by
  match s, h with
  | [a, b, c], _ => exact ⟨a, b, c, rfl⟩
theorem sc_ahead_of_runs : FnScope ["lengths", "found", "steps", "first", "middle", "last"] ["lengths"] (defScope s_ahead_of_runs) := ⟨rfl, rfl, rfl, by decide +kernel, rfl, by decide +kernel, by decide +kernel⟩
theorem cal_ahead_of_runs (t : Ctx K mg base T) : Cal P w K mg base 2 "ahead_of_runs" ["lengths"] (sp_ahead_of_runs K T) := by
  refine cal_of t.d_ahead_of_runs t.g_ahead_of_runs sc_ahead_of_runs (fun _ _ _ _ _ _ us hl => match us, hl with | [_], _ => rfl) (fun vs H Q E h => ?_) (fun cdv A outer s H vs Q E hr h => ?_)
  · obtain ⟨G, l, a, L, rfl, _⟩ := h
    rfl
  · obtain ⟨G, l, a, L, rfl, O, ha, hn, q⟩ := h
    refine ⟨_, (pss_cons (ps_set (i := 1) sc_ahead_of_runs.nd rfl (.inl rfl) (pe_lst pa_nil))
      (pss_cons (ps_while PassesOwn.never (pt_cmpR op_gt (pe_callB lenK (by rfl) t.len (by decide +kernel) (pa_cons (pv 0) pa_nil)) pe_int (nomark _))
        (pss_cons (ps_asg (pe_cal (cal_round_of t) hr (pa_cons (pv 0) pa_nil)) (pg_tup (by rfl) (pgs_cons (pg_name (i := 2) sc_ahead_of_runs.nd rfl (.inl rfl)) (pgs_cons (pg_name (i := 0) sc_ahead_of_runs.nd rfl (.inl rfl)) pgs_nil))))
        (pss_one (ps_expr (bmK PySem.F.plainAttrs_list PySem.F.slot_list_extend PySem.F.type_list_extend mt_extend (pv 1) (pa_cons (pv 2) pa_nil))))))
      (pss_one (ps_ret (pe_tup (pa_cons (pv 1) (pa_cons (pe_callB (sumK rfl) (by rfl) t.sum (by decide +kernel) (pa_cons (pe_lc (own := [("first", 3), ("middle", 4), ("last", 5)]) (g := gTup K 3 (gCons (gName 3) (gCons (gName 4) (gCons (gName 5) (gNil))))) (tt := tYes) (by rfl) sc_ahead_of_runs.nd (piL (pv 1)) (blkOk_by (own := [("first", 3), ("middle", 4), ("last", 5)]) (N := ["lengths", "found", "steps", "first", "middle", "last"]) (sc := defScope s_ahead_of_runs) (by decide +kernel)) (fun _ _ _ _ _ => (pg_tup (by rfl) (pgs_cons (pg_name (i := 3) sc_ahead_of_runs.nd rfl (.inl rfl)) (pgs_cons (pg_name (i := 4) sc_ahead_of_runs.nd rfl (.inl rfl)) (pgs_cons (pg_name (i := 5) sc_ahead_of_runs.nd rfl (.inl rfl)) pgs_nil))))) (fun _ _ _ _ _ => pts_nil) (fun _ _ _ _ _ => (pe_op op_sub (pv 5) (pv 3)))) pa_nil)) pa_nil))))))), ?_⟩
    refine ⟨Nat.zero_le _, fun pf n0 => ?_⟩
    have O1 := own_new (o := .lst []) O n0
    refine ⟨fun m σ H' => ∃ y2 y3 y4 y5 G' a' L' fv F, σ = [some (.ref a'), some (.ref pf), y2, y3, y4, y5] ∧ Same G G' ∧ Own T G' H' ((pf, .lst fv) :: l) ∧ NL K G' a' L' ∧ Rows K G' fv F ∧ F ++ allS L' = allS L ∧ m = L'.length ∧ L'.length ≤ 200, ⟨_, none, none, none, none, G, a, L, [], [], rfl, Same.refl _, O1, ha, Each.nil, rfl, rfl, hn⟩, fun m σ H' ⟨y2, y3, y4, y5, G', a', L', fv, F, e, s, O2, ha', hF, e1, hm, hL⟩ => ?_⟩
    subst e
    have hFl : fv.length ≤ 40000 := by
      have := congrArg List.length e1
      have h2 := (all_three L).2
      have h3 : L.length * L.length ≤ 200 * 200 := Nat.mul_le_mul hn hn
      rw [List.length_append] at this
      rw [hF.1]
      omega
    refine ⟨.ref a', rfl, a', _, rfl, .inl (O2.seq ha'), _, _, rfl, rfl, _, rfl, ite2 (fun h => ?_) (fun h => ?_)⟩
    · have h2 : ¬ L'.length < 2 := by
        have := of_decide_eq_true h
        rw [List.length_map] at this
        omega
      refine ⟨fun σ' H'' => ∃ m', m' < m ∧ ∃ y2 y3 y4 y5 G' a' L' fv F, σ' = [some (.ref a'), some (.ref pf), y2, y3, y4, y5] ∧ Same G G' ∧ Own T G' H'' ((pf, .lst fv) :: l) ∧ NL K G' a' L' ∧ Rows K G' fv F ∧ F ++ allS L' = allS L ∧ m' = L'.length ∧ L'.length ≤ 200, fun _ _ h => h, .ref a', rfl, G', _, a', L', rfl, O2, ha', hL, fun G3 H3 p sl ml sv s3 O3 hp hs hm3 => ?_⟩
      refine ⟨p, _, rfl, O3.tup hp, rfl, .ref sl, _, rfl, .ref ml, _, rfl, rfl, ?_⟩
      have hsl : sv.length ≤ 200 := by
        rw [hs.1]
        exact Nat.le_trans (rnd_three L' 0).2 hL
      refine ⟨.ref pf, rfl, .inl ⟨rfl, _, .inl (.inl O3.l1)⟩, .ref sl, rfl, pf, sl, _, _, rfl, rfl, O3.l1, O3.l0, sz (by omega), ?_⟩
      have O4 := own_set (o' := .lst (fv ++ sv)) O3 1 rfl
      refine ⟨_, by rw [hm]; exact (rndM_len L').2 (by omega), some (.ref sl), y3, y4, y5, G3, ml, rndM L', fv ++ sv, F ++ rndS 0 L', rfl, s.trans s3, O4.drop, hm3, (hF.up s3).app hs, ?_, rfl, Nat.le_trans (rndM_len L').1 hL⟩
      rw [List.append_assoc, ← allS_more h2]
      exact e1
    · have h2 : L'.length < 2 := by
        by_cases h0 : L'.length < 2
        · exact h0
        · exact absurd (decide_eq_true (by rw [List.length_map]; omega : (1 : Int) < (((L'.map nv).length : Nat) : Int))) h
      rw [allS_small h2, List.append_nil] at e1
      subst e1
      refine ⟨.ref pf, rfl, .ref pf, rfl, pf, rfl, ⟨_, .inl (.inl O2.l0)⟩, fun D nD => lc_val (ys := allS L) walk_list O2.frz nD hF.1.symm (by omega) (fun s => .int (span s)) (fun H' s' => s'.seq (.inl (.inl upd_same))) (fun i x y H1 H2 acc Qc hi ey O3 hy hQ => ?_) (fun H3 O3 => ?_)⟩
      · obtain ⟨rfl, hy⟩ := hy
        obtain ⟨t, rfl, ht⟩ := hF.2 i x y hy ey
        obtain ⟨a1, a2, a3, rfl⟩ := three_of ((all_three L).1 y (List.mem_of_getElem? ey))
        exact ⟨t, _, rfl, O3.tup (Same.tup O2.gup ht), rfl, nv a1, _, rfl, nv a2, _, rfl, nv a3, _, rfl, rfl, rfl, nv a3, rfl, nv a1, rfl, _, _, rfl, rfl, hQ _ O3⟩
      · refine ⟨D, (allS L).map span, rfl, .inl (.inl (by rw [O3.l0, List.map_map]; rfl)), two_ok, fun p np => ?_⟩
        have O4 := own_new (o := .tup [.ref pf, .int ((allS L).map span).sum]) O3.drop np
        have s2 := O2.gup
        have s4 := O4.gup
        exact q _ _ p pf fv _ ((s.trans s2).trans s4) O4.frz (.inl (.inl upd_same)) (s4.seq (.inl (.inl upd_same))) (hF.up (s2.trans s4))
end
end Fs

set_option maxHeartbeats 4000000
/-! By the runs; by each way. -/
namespace Fs
open PySem PySem.Spec PyProof.Rows L2
theorem rows_map {K : PySem.W.Frag} {G : Hp} {vs : List V} {rows : List (List Nat)} {A : List Nat} (h : Each (fun v p => RowN K G v (row rows p)) vs A) : Rows K G vs (A.map (row rows)) := by
  refine ⟨by rw [List.length_map]; exact h.1, fun i v x h1 h2 => ?_⟩
  rw [List.getElem?_map] at h2
  cases e : A[i]? with
  | none => rw [e] at h2; cases h2
  | some p =>
    rw [e] at h2
    obtain rfl := Option.some.inj h2
    exact h.2 i v p h1 e
section
variable {P : Program} {w : World} {K : PySem.W.Frag} {mg : Str → Option Value} {base : Heap} {T : TL}
def sp_joined (K : PySem.W.Frag) (T : TL) : Sp := fun vs H Q _ => ∃ (G : Hp) (l : List (Addr × HO)) (a oa sa : Addr) (us : List V) (rows : List (List Nat)) (D A B R : List Nat), vs = [.ref a, .ref oa, .ref sa] ∧ Own T G H ((oa, .lst ((D ++ (A ++ (B ++ R))).map nv)) :: l) ∧ SqL K G a us ∧ Rows K G us rows ∧
  SqT K G sa [nv D.length, nv (D.length + A.length), nv (D.length + A.length + B.length)] ∧ (∀ p ∈ A, p < rows.length) ∧ (∀ p ∈ B, p < rows.length) ∧ A.length ≤ 200 ∧ B.length ≤ 200 ∧
  ∀ G' H' p, Same G G' → Own T G' H' ((p, .lst ((mrg rows A B).map nv)) :: (oa, .lst ((D ++ (A ++ (B ++ R))).map nv)) :: l) → Q (.ref p) H'
theorem cut_mid (D A R : List Nat) : cutV ((D ++ (A ++ R)).map nv) (some (D.length : Int)) (some ((D.length + A.length : Nat) : Int)) = A.map nv := by
  rw [cut_ab (by omega) (by rw [List.length_map, List.length_append, List.length_append]; omega), map_cut, show D.length + A.length - D.length = A.length by omega, List.drop_left, List.take_left]
theorem sc_joined : FnScope ["rows", "order", "step", "first", "middle", "last", "halves", "pairs", "place", "which"] ["rows", "order", "step"] (defScope s_joined) := ⟨rfl, rfl, rfl, by decide +kernel, rfl, by decide +kernel, by decide +kernel⟩
theorem cal_joined (t : Ctx K mg base T) : Cal P w K mg base 2 "joined" ["rows", "order", "step"] (sp_joined K T) := by
  refine cal_of t.d_joined t.g_joined sc_joined (fun _ _ _ _ _ _ us hl => match us, hl with | [_, _, _], _ => rfl) (fun vs H Q E h => ?_) (fun cdv A outer s H vs Q E hr h => ?_)
  · obtain ⟨G, l, a, oa, sa, us, rows, D, A, B, R, rfl, _⟩ := h
    rfl
  · obtain ⟨G, l, a, oa, sa, us, rows, D, A, B, R, rfl, O, ha, he, hs, hA, hB, hA2, hB2, q⟩ := h
    refine ⟨_, (pss_cons (ps_asg (pv 2) (pg_tup (by rfl) (pgs_cons (pg_name (i := 3) sc_joined.nd rfl (.inl rfl)) (pgs_cons (pg_name (i := 4) sc_joined.nd rfl (.inl rfl)) (pgs_cons (pg_name (i := 5) sc_joined.nd rfl (.inl rfl)) pgs_nil)))))
      (pss_cons (ps_set (i := 6) sc_joined.nd rfl (.inr rfl) (pe_tup (pa_cons (pe_slice slL (pv 1) (po_some (pv 3)) (po_some (pv 4))) (pa_cons (pe_slice slL (pv 1) (po_some (pv 4)) (po_some (pv 5))) pa_nil))))
      (pss_cons (ps_set (i := 7) sc_joined.nd rfl (.inl rfl) (pe_cal (cal_merged t) hr (pa_cons (pe_lc (own := [("place", 8)]) (g := gName 8) (tt := tYes) (by rfl) sc_joined.nd (piL (pe_ix ixT (pv 6) pe_int (fun _ _ => rfl))) (blkOk_by (own := [("place", 8)]) (N := ["rows", "order", "step", "first", "middle", "last", "halves", "pairs", "place", "which"]) (sc := defScope s_joined) (by decide +kernel)) (fun _ _ _ _ _ => (pg_name (i := 8) sc_joined.nd rfl (.inl rfl))) (fun _ _ _ _ _ => pts_nil) (fun _ _ _ _ _ => (pe_ix ixL (pv 0) (pv 8) (fun _ _ => rfl)))) (pa_cons (pe_lc (own := [("place", 8)]) (g := gName 8) (tt := tYes) (by rfl) sc_joined.nd (piL (pe_ix ixT (pv 6) pe_int (fun _ _ => rfl))) (blkOk_by (own := [("place", 8)]) (N := ["rows", "order", "step", "first", "middle", "last", "halves", "pairs", "place", "which"]) (sc := defScope s_joined) (by decide +kernel)) (fun _ _ _ _ _ => (pg_name (i := 8) sc_joined.nd rfl (.inl rfl))) (fun _ _ _ _ _ => pts_nil) (fun _ _ _ _ _ => (pe_ix ixL (pv 0) (pv 8) (fun _ _ => rfl)))) pa_nil))))
      (pss_one (ps_ret (pe_lc (own := [("which", 9), ("place", 8)]) (g := gTup K 2 (gCons (gName 9) (gCons (gName 8) (gNil)))) (tt := tYes) (by rfl) sc_joined.nd (piL (pv 7)) (blkOk_by (own := [("which", 9), ("place", 8)]) (N := ["rows", "order", "step", "first", "middle", "last", "halves", "pairs", "place", "which"]) (sc := defScope s_joined) (by decide +kernel)) (fun _ _ _ _ _ => (pg_tup (by rfl) (pgs_cons (pg_name (i := 9) sc_joined.nd rfl (.inl rfl)) (pgs_cons (pg_name (i := 8) sc_joined.nd rfl (.inl rfl)) pgs_nil)))) (fun _ _ _ _ _ => pts_nil) (fun _ _ _ _ _ => (pe_ix ixL (pe_ix ixT (pv 6) (pv 9) (fun _ _ => rfl)) (pv 8) (fun _ _ => rfl))))))))), ?_⟩
    refine ⟨.ref sa, rfl, sa, _, rfl, O.tup hs, rfl, nv D.length, _, rfl, nv (D.length + A.length), _, rfl, nv (D.length + A.length + B.length), _, rfl, rfl, ?_⟩
    refine ⟨.ref oa, rfl, nv D.length, rfl, _, rfl, nv (D.length + A.length), rfl, _, rfl, oa, _, rfl, .inl (.inl O.l0), fun pA nA => ?_⟩
    rw [cut_mid]
    have O1 := own_new (o := .lst (A.map nv)) O nA
    have s1 := O1.gup
    have O2 := O1.frz
    refine ⟨.ref oa, rfl, nv (D.length + A.length), rfl, _, rfl, nv (D.length + A.length + B.length), rfl, _, rfl, oa, _, rfl, .inl (.inl O2.l0), fun pB nB => ?_⟩
    have eB : cutV ((D ++ (A ++ (B ++ R))).map nv) (some ((D.length + A.length : Nat) : Int)) (some ((D.length + A.length + B.length : Nat) : Int)) = B.map nv := by
      have z := cut_mid (D ++ A) B R
      rw [List.length_append, List.append_assoc] at z
      exact z
    rw [eB]
    have O3 := own_new (o := .lst (B.map nv)) O2 nB
    have s3 := O3.gup
    have O4 := O3.frz
    refine ⟨two_ok, fun ph nh => ?_⟩
    have O5 := own_new (o := .tup [.ref pA, .ref pB]) O4 nh
    have s5 := O5.gup
    have O6 := O5.frz
    have gA : NL K (upd (upd (upd G pA (.lst (A.map nv))) pB (.lst (B.map nv))) ph (.tup [.ref pA, .ref pB])) pA A := s5.seq (s3.seq (.inl (.inl upd_same)))
    have gB : NL K (upd (upd (upd G pA (.lst (A.map nv))) pB (.lst (B.map nv))) ph (.tup [.ref pA, .ref pB])) pB B := s5.seq (.inl (.inl upd_same))
    have gh : SqT K (upd (upd (upd G pA (.lst (A.map nv))) pB (.lst (B.map nv))) ph (.tup [.ref pA, .ref pB])) ph [.ref pA, .ref pB] := .inl (.inl upd_same)
    have sG := (s1.trans s3).trans s5
    generalize upd (upd (upd G pA (.lst (A.map nv))) pB (.lst (B.map nv))) ph (.tup [.ref pA, .ref pB]) = G6 at O6 gA gB gh sG
    clear O5 s5 O4 O3 s3 O2 O1 s1
    have elt : ∀ (C : List Nat), (∀ p ∈ C, p < rows.length) → ∀ (i : Nat) (x : V) (p : Nat), (C.map nv)[i]? = some x → C[i]? = some p → x = nv p ∧ p < rows.length := by
      intro C hC i x p h1 h2
      obtain ⟨p', h3, rfl⟩ := map_at h1
      obtain rfl : p' = p := Option.some.inj (h3.symm.trans h2)
      exact ⟨rfl, hC p' (List.mem_of_getElem? h2)⟩
    refine ⟨.ref ph, rfl, ph, _, _, _, rfl, rfl, O6.tup gh, atI_nat (j := 0) rfl, pA, rfl, ⟨_, O6.seq gA⟩, fun D1 nD1 => lc_own (ys := A) walk_list O6 nD1 (by simp) (by rw [List.length_map]; omega) (R := fun G v p => RowN K G v (row rows p)) (fun _ _ _ _ s h => RowN.up s h) (fun H' s' => s'.seq gA) (fun i x p G1 H1 H2 acc Qc hi ep s1 O7 hy hQ => ?_) (fun G7 H7 vA s7 O7 heA => ?_)⟩
    · obtain ⟨rfl, hy⟩ := hy
      obtain ⟨rfl, hp⟩ := elt A hA i x p hy ep
      obtain ⟨t, et, ht, er⟩ := row_at he ((sG.trans s1).trans O7.sub) hp
      obtain ⟨t', e', h'⟩ := he.2 p _ _ et er
      obtain rfl : t = t' := by injection e'
      exact ⟨rfl, .ref a, rfl, nv p, rfl, a, us, _, _, rfl, rfl, O7.seq (s1.seq (sG.seq ha)), atI_v et, hQ _ G1 _ (Same.refl _) O7 ⟨t, rfl, Same.tup (sG.trans s1) h'⟩⟩
    refine ⟨.ref ph, rfl, ph, _, _, _, rfl, rfl, O7.tup (Same.tup s7 gh), atI_nat (j := 1) rfl, pB, rfl, ⟨_, O7.seq (s7.seq gB)⟩, fun D2 nD2 => lc_own (ys := B) walk_list O7.frz nD2 (by simp) (by rw [List.length_map]; omega) (R := fun G v p => RowN K G v (row rows p)) (fun _ _ _ _ s h => RowN.up s h) (fun H' s' => s'.seq (O7.gup.seq (s7.seq gB))) (fun i x p G1 H1 H2 acc Qc hi ep s1 O8 hy hQ => ?_) (fun G8 H8 vB s8 O8 heB => ?_)⟩
    · obtain ⟨rfl, hy⟩ := hy
      obtain ⟨rfl, hp⟩ := elt B hB i x p hy ep
      have sH := ((sG.trans s7).trans O7.gup).trans s1
      obtain ⟨t, et, ht, er⟩ := row_at he (sH.trans O8.sub) hp
      obtain ⟨t', e', h'⟩ := he.2 p _ _ et er
      obtain rfl : t = t' := by injection e'
      exact ⟨rfl, .ref a, rfl, nv p, rfl, a, us, _, _, rfl, rfl, O8.seq (sH.seq ha), atI_v et, hQ _ G1 _ (Same.refl _) O8 ⟨t, rfl, Same.tup sH h'⟩⟩
    have hvA : SqL K (upd G8 D2 (.lst vB)) D1 vA := O8.gup.seq (s8.seq (.inl (.inl upd_same)))
    have sG8 : Same G6 (upd G8 D2 (.lst vB)) := ((s7.trans O7.gup).trans s8).trans O8.gup
    have hRA : Rows K (upd G8 D2 (.lst vB)) vA (A.map (row rows)) := (rows_map heA).up ((O7.gup.trans s8).trans O8.gup)
    have hRB : Rows K (upd G8 D2 (.lst vB)) vB (B.map (row rows)) := (rows_map heB).up O8.gup
    refine ⟨_, _, D1, D2, vA, vB, A.map (row rows), B.map (row rows), rfl, O8.frz, hvA, hRA, .inl (.inl upd_same), hRB, by rw [List.length_map]; exact hA2, by rw [List.length_map]; exact hB2, fun G9 H9 pp pv s9 O9 hP => ?_⟩
    have hml := mp_len (A.map (row rows)) 0 (B.map (row rows)) 0
    have s10 := O9.gup
    have sF := (sG8.trans s9).trans s10
    refine ⟨.ref pp, rfl, pp, rfl, ⟨_, .inl (.inl O9.l0)⟩, fun E nE => lc_valS [some (.ref a), some (.ref oa), some (.ref sa), some (nv D.length), some (nv (D.length + A.length)), some (nv (D.length + A.length + B.length)), some (.ref ph), some (.ref pp), none, none] rfl (ys := mp (A.map (row rows)) 0 (B.map (row rows)) 0) walk_list O9.frz nE hP.1.symm (by rw [hP.1, hml, List.length_map, List.length_map]; omega) (fun p => nv (look A B p)) (fun H' s' => s'.seq (.inl (.inl upd_same))) (fun i x p H1 H2 acc Qc hi ep O10 hy hQ => ?_) (fun H10 O10 => ?_)⟩
    · obtain ⟨rfl, hy⟩ := hy
      obtain ⟨t, rfl, ht⟩ := hP.2 i x p hy ep
      obtain ⟨j, hj⟩ := mp_good A.length B.length (A.map (row rows)) 0 (B.map (row rows)) 0 (by rw [List.length_map]; omega) (by rw [List.length_map]; omega) p (List.mem_of_getElem? ep)
      have hq := hQ _ O10
      rcases hj with ⟨rfl, hj⟩ | ⟨rfl, hj⟩
      · have e3 : A[j]? = some A[j] := List.getElem?_eq_getElem hj
        have e4 : look A B [0, j] = A[j] := by simp [look, hj]
        rw [e4] at hq
        exact ⟨t, _, rfl, O10.tup (Same.tup s10 ht), rfl, nv 0, _, rfl, nv j, _, rfl, rfl, rfl, .ref ph, rfl, nv 0, rfl, ph, _, _, _, rfl, rfl, O10.tup (Same.tup sF gh), atI_nat (j := 0) rfl, nv j, rfl, pA, _, _, _, rfl, rfl, O10.seq (sF.seq gA), atI_map e3, hq⟩
      · have e3 : B[j]? = some B[j] := List.getElem?_eq_getElem hj
        have e4 : look A B [1, j] = B[j] := by simp [look, hj]
        rw [e4] at hq
        exact ⟨t, _, rfl, O10.tup (Same.tup s10 ht), rfl, nv 1, _, rfl, nv j, _, rfl, rfl, rfl, .ref ph, rfl, nv 1, rfl, ph, _, _, _, rfl, rfl, O10.tup (Same.tup sF gh), atI_nat (j := 1) rfl, nv j, rfl, pB, _, _, _, rfl, rfl, O10.seq (sF.seq gB), atI_map e3, hq⟩
    · refine q _ _ E (sG.trans sF) ?_
      rw [← mp_look A B A 0 B 0 rfl rfl, List.map_map]
      exact O10
def sp_by_runs (K : PySem.W.Frag) (T : TL) : Sp := fun vs H Q _ => ∃ (G : Hp) (l : List (Addr × HO)) (a : Addr) (us : List V) (rows : List (List Nat)), vs = [.ref a] ∧ Own T G H l ∧ SqL K G a us ∧ Rows K G us rows ∧ rows.length ≤ 200 ∧
  ∀ G' H' p ol sl ss sts o, Same G G' → Own T G' H' l → SqT K G' p [.ref ol, .ref sl] → GL G' ol o → SqL K G' sl ss → Rows K G' ss sts → (∀ s ∈ sts, s.length = 3) → sts.length ≤ 90000 → IsOrd (rlt rows) rows.length o → Q (.ref p) H'
theorem sc_by_runs : FnScope ["rows", "order", "steps", "step"] ["rows"] (defScope s_by_runs) := ⟨rfl, rfl, rfl, by decide +kernel, rfl, by decide +kernel, by decide +kernel⟩
theorem cal_by_runs (t : Ctx K mg base T) : Cal P w K mg base 3 "by_runs" ["rows"] (sp_by_runs K T) := by
  refine cal_of t.d_by_runs t.g_by_runs sc_by_runs (fun _ _ _ _ _ _ us hl => match us, hl with | [_], _ => rfl) (fun vs H Q E h => ?_) (fun cdv A outer s H vs Q E hr h => ?_)
  · obtain ⟨G, l, a, us, rows, rfl, _⟩ := h
    rfl
  · obtain ⟨G, l, a, us, rows, rfl, O, ha, he, hn, q⟩ := h
    refine ⟨_, (pss_cons (ps_set (i := 1) sc_by_runs.nd rfl (.inl rfl) (pe_listRg rfl (by rfl) t.list (prg_1 (by rfl) t.range (pe_callB lenK (by rfl) t.len (by decide +kernel) (pa_cons (pv 0) pa_nil)))))
      (pss_cons (ps_set (i := 2) sc_by_runs.nd rfl (.inl rfl) (pe_ix ixT (pe_cal (cal_ahead_of_runs t) hr (pa_cons (pe_cal (cal_runs t) hr (pa_cons (pv 0) pa_nil)) pa_nil)) pe_int (fun _ _ => rfl)))
      (pss_cons (ps_for PassesOwn.never rfl (piL (pv 2)) (pg_name (i := 3) sc_by_runs.nd rfl (.inl rfl))
        (pss_one (ps_asg (pe_cal (cal_joined t) hr (pa_cons (pv 0) (pa_cons (pv 1) (pa_cons (pv 3) pa_nil)))) (pg_slice (pv 1) (po_some (pe_ix ixT (pv 3) pe_int (fun _ _ => rfl))) (po_some (pe_ix ixT (pv 3) pe_int (fun _ _ => rfl)))))))
      (pss_one (ps_ret (pe_tup (pa_cons (pv 1) (pa_cons (pv 2) pa_nil)))))))), ?_⟩
    have hl : us.length = rows.length := he.1
    refine ⟨.ref a, rfl, a, us, rfl, .inl (O.seq ha), _, rfl, rg_ok (by omega), fun op n0 => ?_⟩
    rw [rg_nv, hl]
    have O1 := own_new (o := .lst ((List.range rows.length).map nv)) O n0
    refine ⟨.ref a, rfl, G, _, a, us, rows, rfl, O1, ha, he, hn, fun H2 p2 Bs O2 hI => ?_⟩
    have bl : Bs.length ≤ 200 := by
      have e := congrArg List.length hI.flat
      rw [List.length_flatten, List.length_range] at e
      have : ∀ L : List (List Nat), (∀ B ∈ L, B ≠ []) → L.length ≤ (L.map List.length).sum := by
        intro L
        induction L with
        | nil => intro _; simp
        | cons B L ih =>
          intro h
          have := ih fun C hC => h C (List.mem_cons_of_mem _ hC)
          have := List.length_pos_iff.mpr (h B (List.mem_cons_self ..))
          rw [List.length_cons, List.map_cons, List.sum_cons]
          omega
      have := this Bs hI.ne
      omega
    refine ⟨_, _, p2, Bs.map List.length, rfl, O2.frz, .inl (.inl upd_same), by rw [List.length_map]; exact bl, fun G3 H3 p3 sl sv z s3 O3 hp hs hR => ?_⟩
    have sA := O2.gup.trans s3
    obtain ⟨t1, t2⟩ := all_three (Bs.map List.length)
    have hsts : (allS (Bs.map List.length)).length ≤ 40000 := by
      rw [List.length_map] at t2
      exact Nat.le_trans t2 (Nat.mul_le_mul bl bl)
    have h0 : todo [] Bs = allS (Bs.map List.length) := by
      unfold todo
      by_cases h : (Bs.map List.length).length < 2
      · obtain ⟨r1, r2⟩ := rnd_short h 0
        rw [show ([] : List (List Nat)).flatten.length = 0 from rfl, r1, r2]
        rfl
      · rw [allS_more h]
        rfl
    refine ⟨p3, _, _, _, rfl, rfl, O3.tup hp, atI_nat (j := 0) rfl, .ref sl, rfl, sl, rfl, ⟨_, O3.seq hs⟩, ?_⟩
    have e0 : ([] ++ Bs : List (List Nat)).flatten = List.range rows.length := by rw [List.nil_append, hI.flat]
    rw [← e0] at O3
    refine for_it walk_list (fun i σ H' => ∃ y3 G' Dn Bs', σ = [some (.ref a), some (.ref op), some (.ref sl), y3] ∧ Same G3 G' ∧ Own T G' H' ((op, .lst ((Dn ++ Bs').flatten.map nv)) :: l) ∧ RInv rows Dn Bs' ∧ todo Dn Bs' = (allS (Bs.map List.length)).drop i) ⟨none, G3, [], Bs, rfl, Same.refl _, O3, rinv0 hI, h0⟩ (fun i σ H' _ ⟨_, _, _, _, _, s, O4, _⟩ => O4.seq (s.seq hs)) (fun i x σ H4 H5 hi ⟨y3, G', Dn, Bs', e, s, O4, I, ht⟩ hy => ?_) (fun σ H4 ⟨y3, G', Dn, Bs', e, s, O4, I, ht⟩ => ?_)
    · subst e
      obtain ⟨rfl, hy⟩ := hy
      obtain ⟨st, est, tq, rfl, htq⟩ := hR.at_v hy
      rw [drop_at est] at ht
      -- the next two blocks
      obtain ⟨Dn, A, B, R, e1, I, ht⟩ : ∃ Dn2 A B R, (Dn ++ Bs').flatten = (Dn2 ++ (A :: B :: R)).flatten ∧ RInv rows Dn2 (A :: B :: R) ∧ todo Dn2 (A :: B :: R) = st :: (allS (Bs.map List.length)).drop (i + 1) := by
        rcases todo_norm (Dn := Dn) (Bs := Bs') with ⟨h1, _⟩ | ⟨A, B, R, rfl⟩ | ⟨A, B, R, h1, h2⟩
        · rw [h1] at ht; cases ht
        · exact ⟨Dn, A, B, R, rfl, I, ht⟩
        · refine ⟨[], A, B, R, by rw [h1]; rfl, by rw [← h1]; exact rinv_norm I, by rw [← ht, h2, h1]⟩
      rw [e1] at O4
      rw [todo_step (rows := rows)] at ht
      obtain ⟨hst, ht2⟩ := List.cons.inj ht
      subst hst
      have hfl : (Dn ++ (A :: B :: R)).flatten = Dn.flatten ++ (A ++ (B ++ R.flatten)) := by simp
      have hfl2 : ((Dn ++ [mrg rows A B]) ++ R).flatten = Dn.flatten ++ (mrg rows A B ++ R.flatten) := by simp
      have hsm : ∀ p, p ∈ (Dn ++ (A :: B :: R)).flatten → p < rows.length := fun p hp => List.mem_range.mp (I.perm.mem_iff.mp hp)
      have hlen := I.perm.length_eq
      rw [hfl] at O4 hsm hlen
      rw [List.length_range] at hlen
      simp only [List.length_append] at hlen
      have sB := sA.trans s
      have htq2 : SqT K G' tq ([Dn.flatten.length, Dn.flatten.length + A.length, Dn.flatten.length + A.length + B.length].map nv) := Same.tup s htq
      refine ⟨.ref a, rfl, .ref op, rfl, .ref tq, rfl, G', l, a, op, tq, us, rows, Dn.flatten, A, B, R.flatten, rfl, O4, sB.seq ha, he.up sB, htq2, fun p hp => hsm p (by simp [hp]), fun p hp => hsm p (by simp [hp]), by omega, by omega, fun G5 H5 p5 s5 O5 => ?_⟩
      refine ⟨.ref op, rfl, .ref tq, rfl, tq, _, _, _, rfl, rfl, O5.tup (Same.tup s5 htq2), atI_nat (j := 0) rfl, _, rfl, .ref tq, rfl, tq, _, _, _, rfl, rfl, O5.tup (Same.tup s5 htq2), atI_nat (j := 2) rfl, _, rfl, op, p5, _, _, _, _, rfl, rfl, rfl, rfl, O5.l1, O5.l0, ?_, by omega, by omega, ?_, ?_, ?_⟩
      · intro e
        have := O5.nd
        rw [← e] at this
        simp at this
      · simp only [List.length_map, List.length_append]
        omega
      · simp only [List.length_map, List.length_append, mrg_len]
        exact sz (by omega)
      · have e12 : ((Dn.flatten ++ (A ++ (B ++ R.flatten))).map nv).take (Int.toNat (Dn.flatten.length : Int)) ++ (mrg rows A B).map nv ++ ((Dn.flatten ++ (A ++ (B ++ R.flatten))).map nv).drop (Int.toNat ((Dn.flatten.length + A.length + B.length : Nat) : Int)) = ((Dn ++ [mrg rows A B]) ++ R).flatten.map nv := by
          rw [Int.toNat_natCast, Int.toNat_natCast, hfl2, ← List.map_take, ← List.map_drop, List.take_left, show Dn.flatten ++ (A ++ (B ++ R.flatten)) = (Dn.flatten ++ A ++ B) ++ R.flatten by simp, show Dn.flatten.length + A.length + B.length = (Dn.flatten ++ A ++ B).length by rw [List.length_append, List.length_append], List.drop_left, ← List.map_append, ← List.map_append, List.append_assoc]
        rw [e12]
        have O6 := own_set (o' := .lst (((Dn ++ [mrg rows A B]) ++ R).flatten.map nv)) O5 1 rfl
        exact ⟨some (.ref tq), G5, Dn ++ [mrg rows A B], R, rfl, s.trans s5, O6.drop, rinv_step I, ht2⟩
    · subst e
      rw [hR.1, List.drop_length] at ht
      have hend : (Dn ++ Bs').length < 2 := by
        rcases todo_norm (Dn := Dn) (Bs := Bs') with ⟨_, h1⟩ | ⟨A, B, R, rfl⟩ | ⟨A, B, R, h1, h2⟩
        · exact h1
        · rw [todo_step (rows := rows)] at ht; cases ht
        · rw [h2, h1, todo_step (rows := rows)] at ht; cases ht
      refine ⟨.ref op, rfl, .ref sl, rfl, two_ok, fun p np => ?_⟩
      have O6 := own_new (o := .tup [.ref op, .ref sl]) O4.frz np
      have s5 := O4.gup
      have s6 := O6.gup
      have sE := (s.trans s5).trans s6
      exact q _ _ p op sl sv _ _ (sA.trans sE) O6.frz (.inl (.inl upd_same)) (s6 _ _ upd_same) (sE.seq hs) (hR.up sE) t1 (by omega) (rinv_end I hend)
/-! ### by each way -/
def span1 (s : List Nat) : Int := ((s.getD 1 0 : Nat) : Int) - ((s.getD 0 0 : Nat) : Int)
def sp_done_by (K : PySem.W.Frag) (T : TL) : Sp := fun vs H Q _ => ∃ (G : Hp) (l : List (Addr × HO)) (a : Addr) (wy : Str) (us : List V) (rows : List (List Nat)) (b : Nat), vs = [.str wy, .ref a, nv b] ∧ (wy = "last" ∨ wy = "first" ∨ wy = "runs") ∧ Own T G H l ∧ SqL K G a us ∧ Rows K G us rows ∧ RowsOk b rows ∧
  ∀ G' H' p ol (z : Int) o, Same G G' → Own T G' H' l → SqT K G' p [.ref ol, .int z] → GL G' ol o → IsOrd (rlt rows) rows.length o → Q (.ref p) H'
theorem sc_done_by : FnScope ["way", "rows", "base", "order", "steps", "first", "last", "column", "middle"] ["way", "rows", "base"] (defScope s_done_by) := ⟨rfl, rfl, rfl, by decide +kernel, rfl, by decide +kernel, by decide +kernel⟩
theorem cal_done_by (t : Ctx K mg base T) : Cal P w K mg base 4 "done_by" ["way", "rows", "base"] (sp_done_by K T) := by
  refine cal_of t.d_done_by t.g_done_by sc_done_by (fun _ _ _ _ _ _ us hl => match us, hl with | [_, _, _], _ => rfl) (fun vs H Q E h => ?_) (fun cdv A outer s H vs Q E hr h => ?_)
  · obtain ⟨G, l, a, wy, us, rows, b, rfl, _⟩ := h
    rfl
  · obtain ⟨G, l, a, wy, us, rows, b, rfl, hw, O, ha, he, ok, q⟩ := h
    refine ⟨_, (pss_cons (ps_if (pt_cmpR op_eq (pv 0) (pe_gs t.c_LAST) (nomark _))
        (pss_cons (ps_asg (pe_cal (cal_from_last t) hr (pa_cons (pv 1) (pa_cons (pv 2) pa_nil))) (pg_tup (by rfl) (pgs_cons (pg_name (i := 3) sc_done_by.nd rfl (.inl rfl)) (pgs_cons (pg_name (i := 4) sc_done_by.nd rfl (.inl rfl)) pgs_nil))))
        (pss_one (ps_ret (pe_tup (pa_cons (pv 3) (pa_cons (pe_op op_mul (pe_callB lenK (by rfl) t.len (by decide +kernel) (pa_cons (pv 1) pa_nil)) (pe_callB lenK (by rfl) t.len (by decide +kernel) (pa_cons (pv 4) pa_nil))) pa_nil))))))
        pss_nil)
      (pss_cons (ps_if (pt_cmpR op_eq (pv 0) (pe_gs t.c_FIRST) (nomark _))
        (pss_cons (ps_asg (pe_cal (cal_from_first t) hr (pa_cons (pv 1) (pa_cons (pv 2) pa_nil))) (pg_tup (by rfl) (pgs_cons (pg_name (i := 3) sc_done_by.nd rfl (.inl rfl)) (pgs_cons (pg_name (i := 4) sc_done_by.nd rfl (.inl rfl)) pgs_nil))))
        (pss_one (ps_ret (pe_tup (pa_cons (pv 3) (pa_cons (pe_callB (sumK rfl) (by rfl) t.sum (by decide +kernel) (pa_cons (pe_lc (own := [("first", 5), ("last", 6), ("column", 7)]) (g := gTup K 3 (gCons (gName 5) (gCons (gName 6) (gCons (gName 7) (gNil))))) (tt := tYes) (by rfl) sc_done_by.nd (piL (pv 4)) (blkOk_by (own := [("first", 5), ("last", 6), ("column", 7)]) (N := ["way", "rows", "base", "order", "steps", "first", "last", "column", "middle"]) (sc := defScope s_done_by) (by decide +kernel)) (fun _ _ _ _ _ => (pg_tup (by rfl) (pgs_cons (pg_name (i := 5) sc_done_by.nd rfl (.inl rfl)) (pgs_cons (pg_name (i := 6) sc_done_by.nd rfl (.inl rfl)) (pgs_cons (pg_name (i := 7) sc_done_by.nd rfl (.inl rfl)) pgs_nil))))) (fun _ _ _ _ _ => pts_nil) (fun _ _ _ _ _ => (pe_op op_sub (pv 6) (pv 5)))) pa_nil)) pa_nil))))))
        pss_nil)
      (pss_cons (ps_asg (pe_cal (cal_by_runs t) hr (pa_cons (pv 1) pa_nil)) (pg_tup (by rfl) (pgs_cons (pg_name (i := 3) sc_done_by.nd rfl (.inl rfl)) (pgs_cons (pg_name (i := 4) sc_done_by.nd rfl (.inl rfl)) pgs_nil))))
      (pss_one (ps_ret (pe_tup (pa_cons (pv 3) (pa_cons (pe_callB (sumK rfl) (by rfl) t.sum (by decide +kernel) (pa_cons (pe_lc (own := [("first", 5), ("middle", 8), ("last", 6)]) (g := gTup K 3 (gCons (gName 5) (gCons (gName 8) (gCons (gName 6) (gNil))))) (tt := tYes) (by rfl) sc_done_by.nd (piL (pv 4)) (blkOk_by (own := [("first", 5), ("middle", 8), ("last", 6)]) (N := ["way", "rows", "base", "order", "steps", "first", "last", "column", "middle"]) (sc := defScope s_done_by) (by decide +kernel)) (fun _ _ _ _ _ => (pg_tup (by rfl) (pgs_cons (pg_name (i := 5) sc_done_by.nd rfl (.inl rfl)) (pgs_cons (pg_name (i := 8) sc_done_by.nd rfl (.inl rfl)) (pgs_cons (pg_name (i := 6) sc_done_by.nd rfl (.inl rfl)) pgs_nil))))) (fun _ _ _ _ _ => pts_nil) (fun _ _ _ _ _ => (pe_op op_sub (pv 6) (pv 5)))) pa_nil)) pa_nil)))))))), ?_⟩
    have hl : us.length = rows.length := he.1
    have hn := ok.2.2.2.2
    refine ⟨.str wy, rfl, rfl, _, rfl, ite2 (fun h => ?_) (fun h => ?_)⟩
    · refine ⟨.ref a, rfl, nv b, rfl, G, l, a, us, rows, b, rfl, O, ha, he, ok, fun G1 H1 p ol sl ss o s1 O1 hp ho hs hs2 hI => ?_⟩
      refine ⟨p, _, rfl, O1.tup hp, rfl, .ref ol, _, rfl, .ref sl, _, rfl, rfl, .ref ol, rfl, .ref a, rfl, a, us, rfl, .inl (O1.seq (s1.seq ha)), .ref sl, rfl, sl, ss, rfl, .inl (O1.seq hs), _, _, rfl, rfl, .inl ⟨by omega, by omega⟩, two_ok, fun p2 n2 => ?_⟩
      have O2 := own_new (o := .tup [.ref ol, .int ((us.length : Int) * (ss.length : Int))]) O1 n2
      exact q _ _ p2 ol _ o (s1.trans O2.gup) O2.frz (.inl (.inl upd_same)) (O2.gup _ _ ho) hI
    · have fin : ∀ (sp : List Nat → Int) (G1 H1 : Hp) (ol sl : Addr) (ss : List V) (sts : List (List Nat)) (o : List Nat), Same G G1 → Own T G1 H1 l → GL G1 ol o → IsOrd (rlt rows) rows.length o → ∀ p, H1 p = none → Q (.ref p) (upd H1 p (.tup [.ref ol, .int (sts.map sp).sum])) := by
        intro sp G1 H1 ol sl ss sts o s1 O1 ho hI p np
        have O2 := own_new (o := .tup [.ref ol, .int (sts.map sp).sum]) O1 np
        exact q _ _ p ol _ o (s1.trans O2.gup) O2.frz (.inl (.inl upd_same)) (O2.gup _ _ ho) hI
      refine ⟨.str wy, rfl, rfl, _, rfl, ite2 (fun h2 => ?_) (fun h2 => ?_)⟩
      · refine ⟨.ref a, rfl, nv b, rfl, G, l, a, us, rows, b, rfl, O, ha, he, ok, fun G1 H1 p ol sl ss sts o s1 O1 hp ho hs hS h3 hs2 hI => ?_⟩
        refine ⟨p, _, rfl, O1.tup hp, rfl, .ref ol, _, rfl, .ref sl, _, rfl, rfl, .ref ol, rfl, .ref sl, rfl, sl, rfl, ⟨_, O1.seq hs⟩, fun D nD => lc_valS [some (.str wy), some (.ref a), some (nv b), some (.ref ol), some (.ref sl), none, none, none, none] rfl (ys := sts) walk_list O1 nD hS.1.symm (by rw [hS.1]; omega) (fun s => .int (span1 s)) (fun H' s' => s'.seq hs) (fun i x y H1 H2 acc Qc hi ey O3 hy hQ => ?_) (fun H3 O3 => ?_)⟩
        · obtain ⟨rfl, hy⟩ := hy
          obtain ⟨t, rfl, ht⟩ := hS.2 i x y hy ey
          obtain ⟨a1, a2, a3, rfl⟩ := three_of (h3 y (List.mem_of_getElem? ey))
          exact ⟨t, _, rfl, O3.tup ht, rfl, nv a1, _, rfl, nv a2, _, rfl, nv a3, _, rfl, rfl, rfl, nv a2, rfl, nv a1, rfl, _, _, rfl, rfl, hQ _ O3⟩
        · exact ⟨D, sts.map span1, rfl, .inl (.inl (by rw [O3.l0, List.map_map]; rfl)), two_ok, fin _ G1 H3 ol sl ss sts o s1 O3.drop ho hI⟩
      · refine ⟨.ref a, rfl, G, l, a, us, rows, rfl, O, ha, he, hn, fun G1 H1 p ol sl ss sts o s1 O1 hp ho hs hS h3 hs2 hI => ?_⟩
        refine ⟨p, _, rfl, O1.tup hp, rfl, .ref ol, _, rfl, .ref sl, _, rfl, rfl, .ref ol, rfl, .ref sl, rfl, sl, rfl, ⟨_, O1.seq hs⟩, fun D nD => lc_valS [some (.str wy), some (.ref a), some (nv b), some (.ref ol), some (.ref sl), none, none, none, none] rfl (ys := sts) walk_list O1 nD hS.1.symm (by rw [hS.1]; omega) (fun s => .int (span s)) (fun H' s' => s'.seq hs) (fun i x y H1 H2 acc Qc hi ey O3 hy hQ => ?_) (fun H3 O3 => ?_)⟩
        · obtain ⟨rfl, hy⟩ := hy
          obtain ⟨t, rfl, ht⟩ := hS.2 i x y hy ey
          obtain ⟨a1, a2, a3, rfl⟩ := three_of (h3 y (List.mem_of_getElem? ey))
          exact ⟨t, _, rfl, O3.tup ht, rfl, nv a1, _, rfl, nv a2, _, rfl, nv a3, _, rfl, rfl, rfl, nv a3, rfl, nv a1, rfl, _, _, rfl, rfl, hQ _ O3⟩
        · exact ⟨D, sts.map span, rfl, .inl (.inl (by rw [O3.l0, List.map_map]; rfl)), two_ok, fin _ G1 H3 ol sl ss sts o s1 O3.drop ho hI⟩
end
end Fs

set_option maxHeartbeats 4000000
/-! Orders; what was ordered. -/
namespace Fs
open PySem PySem.Spec PyProof.Rows L2
theorem perm_small {o : List Nat} {n : Nat} (h : o.Perm (List.range n)) {p : Nat} (hp : p ∈ o) : p < n := List.mem_range.mp (h.mem_iff.mp hp)
theorem perm_len {o : List Nat} {n : Nat} (h : o.Perm (List.range n)) : o.length = n := by rw [h.length_eq, List.length_range]
theorem perm_nodup {o : List Nat} {n : Nat} (h : o.Perm (List.range n)) : o.Nodup := h.nodup_iff.mpr List.nodup_range
/-- the way back -/
def bkw (o : List Nat) (i : Nat) : List Nat := (List.range o.length).map fun k => if k ∈ o.take i then o.idxOf k else 0
theorem idx_at {o : List Nat} (hn : o.Nodup) {i c : Nat} (h : o[i]? = some c) : o.idxOf c = i := by
  obtain ⟨hi, e⟩ := List.getElem?_eq_some_iff.mp h
  rw [← e]
  exact List.Nodup.idxOf_getElem hn i hi
theorem bkw_step {o : List Nat} (hn : o.Nodup) {i c : Nat} (h : o[i]? = some c) (hc : c < o.length) : (bkw o i).set c i = bkw o (i + 1) := by
  apply List.ext_getElem
  · simp [bkw]
  · intro j h1 h2
    simp only [bkw, List.getElem_set, List.getElem_map, List.getElem_range]
    rw [take_snoc h]
    by_cases e : c = j
    · subst e
      rw [if_pos rfl, if_pos (by simp), idx_at hn h]
    · rw [if_neg e]
      have : j ∈ o.take i ++ [c] ↔ j ∈ o.take i := by
        rw [List.mem_append, List.mem_singleton]
        exact ⟨fun z => z.elim id fun z => absurd z.symm e, .inl⟩
      simp only [this]
theorem bkw_end {o : List Nat} (hp : o.Perm (List.range o.length)) : bkw o o.length = (List.range o.length).map fun k => o.idxOf k := by
  unfold bkw
  apply List.map_congr_left
  intro k hk
  rw [List.take_length, if_pos (hp.mem_iff.mpr hk)]
section
variable {P : Program} {w : World} {K : PySem.W.Frag} {mg : Str → Option Value} {base : Heap} {T : TL}
def sp_is_place (K : PySem.W.Frag) (T : TL) : Sp := fun vs H Q _ => ∃ (n m : Nat), vs = [nv n, nv m] ∧ Q (.bl (decide (n < m))) H
theorem sc_is_place : FnScope ["thing", "many"] ["thing", "many"] (defScope s_is_place) := ⟨rfl, rfl, rfl, by decide +kernel, rfl, by decide +kernel, by decide +kernel⟩
theorem cal_is_place (t : Ctx K mg base T) : Cal P w K mg base 1 "is_place" ["thing", "many"] (sp_is_place K T) := by
  refine cal_of t.d_is_place t.g_is_place sc_is_place (fun _ _ _ _ _ _ us hl => match us, hl with | [_, _], _ => rfl) (fun vs H Q E h => ?_) (fun cdv A outer s H vs Q E hr h => ?_)
  · obtain ⟨n, m, rfl, _⟩ := h
    rfl
  · obtain ⟨n, m, rfl, q⟩ := h
    refine ⟨_, (pss_one (ps_ret (pe_and (pe_callB isiK (by rfl) t.isinstance (by decide +kernel) (pa_cons (pv 0) (pa_cons (pe_bltn (v := .ty "int") (by rfl) t.int (by decide +kernel) rfl) pa_nil))) (pe_and (pe_not (pe_callB isiK (by rfl) t.isinstance (by decide +kernel) (pa_cons (pv 0) (pa_cons (pe_bltn (v := .ty "bool") (by rfl) t.bool (by decide +kernel) rfl) pa_nil)))) (pe_one (pe_chain op_le op_lt pe_int (pv 0) (pv 1))))))), ?_⟩
    refine ⟨nv n, rfl, nv n, .ty "int", .type "int", .type "int", true, rfl, .ty "int", .base (.int _), kit_ty (by decide +kernel), _, rfl, iteT ?_⟩
    refine ⟨nv n, rfl, nv n, .ty "bool", .type "int", .type "bool", false, rfl, .ty "bool", .base (.int _), kit_ty (by decide +kernel), _, rfl, _, rfl, iteT ?_⟩
    refine ⟨nv n, rfl, _, _, rfl, rfl, _, rfl, ?_⟩
    rw [decide_eq_true (by omega : (0 : Int) ≤ (n : Int))]
    refine iteT ?_
    refine ⟨nv m, rfl, _, _, rfl, rfl, ?_⟩
    have e : decide ((n : Int) < (m : Int)) = decide (n < m) := decide_eq_decide.mpr (by omega)
    show Q (.bl (decide ((n : Int) < (m : Int)))) H
    rw [e]
    exact q
def sp_is_order (K : PySem.W.Frag) (T : TL) : Sp := fun vs H Q _ => ∃ (G : Hp) (l : List (Addr × HO)) (a : Addr) (o : List Nat), vs = [.ref a] ∧ Own T G H l ∧ GL G a o ∧ o.Perm (List.range o.length) ∧ o.length ≤ 200 ∧ ∀ H', Own T G H' l → Q (.bl true) H'
theorem sc_is_order : FnScope ["thing", "place"] ["thing"] (defScope s_is_order) := ⟨rfl, rfl, rfl, by decide +kernel, rfl, by decide +kernel, by decide +kernel⟩
theorem cal_is_order (t : Ctx K mg base T) : Cal P w K mg base 2 "is_order" ["thing"] (sp_is_order K T) := by
  refine cal_of t.d_is_order t.g_is_order sc_is_order (fun _ _ _ _ _ _ us hl => match us, hl with | [_], _ => rfl) (fun vs H Q E h => ?_) (fun cdv A outer s H vs Q E hr h => ?_)
  · obtain ⟨G, l, a, o, rfl, _⟩ := h
    rfl
  · obtain ⟨G, l, a, o, rfl, O, ha, hp, hn, q⟩ := h
    refine ⟨_, (pss_cons (ps_if (PW.pt (pw_or (pt_not (pt_val (pe_callB isiTK (by rfl) t.isinstance (by decide +kernel) (pa_cons (pv 0) (pa_cons (pe_tup (pa_cons (pe_bltn (v := .ty "list") (by rfl) t.list (by decide +kernel) rfl) (pa_cons (pe_bltn (v := .ty "tuple") (by rfl) t.tuple (by decide +kernel) rfl) pa_nil))) pa_nil))))) (pw_or1 (pt_not (pt_val (pe_callB (allK rfl) (by rfl) t.all (by decide +kernel) (pa_cons (pe_lc (own := [("place", 1)]) (g := gName 1) (tt := tYes) (by rfl) sc_is_order.nd (piL (pv 0)) (blkOk_by (own := [("place", 1)]) (N := ["thing", "place"]) (sc := defScope s_is_order) (by decide +kernel)) (fun _ _ _ _ _ => (pg_name (i := 1) sc_is_order.nd rfl (.inl rfl))) (fun _ _ _ _ _ => pts_nil) (fun _ _ _ _ _ => (pe_cal (cal_is_place t) hr (pa_cons (pv 1) (pa_cons (pe_callB lenK (by rfl) t.len (by decide +kernel) (pa_cons (pv 0) pa_nil)) pa_nil))))) pa_nil)))))))
        (pss_one (ps_ret pe_bl))
        pss_nil)
      (pss_one (ps_ret (pe_cmpR op_eq (pe_callB lenSetK (by rfl) t.len (by decide +kernel) (pa_cons (pe_callTy (setIK rfl) (by rfl) t.set_ (by decide +kernel) (pa_cons (pv 0) pa_nil)) pa_nil)) (pe_callB lenK (by rfl) t.len (by decide +kernel) (pa_cons (pv 0) pa_nil)) (nomark _))))), ?_⟩
    refine ⟨.ref a, rfl, two_ok, fun tp ntp => ?_⟩
    have O1 := own_new (o := .tup [.ty "list", .ty "tuple"]) O ntp
    refine ⟨.ref a, tp, [.ty "list", .ty "tuple"], .type "list", [.type "list", .type "tuple"], true, rfl, upd_same, .cons (.ty _) (.cons (.ty _) .nil), .base (.lst (O1.sub _ _ ha)), kitAny_cons (b := true) (kit_ty (by decide +kernel)) (fun h => nomatch h) (fun _ => rfl), true, rfl, iteF ?_⟩
    refine ⟨.ref a, rfl, a, rfl, ⟨_, O1.drop.seq ha.nl⟩, fun D nD => lc_valS [some (.ref a), none] rfl (ys := o) walk_list O1.drop nD (by simp) (by rw [List.length_map]; omega) (fun p => .bl (decide (p < o.length))) (fun H' s => s.seq ha.nl) (fun i x p H1 H2 acc Qc hi ep O2 hy hQ => ?_) (fun H3 O3 => ?_)⟩
    · obtain ⟨rfl, hy⟩ := hy
      obtain ⟨p', ep', rfl⟩ := map_at hy
      obtain rfl : p' = p := Option.some.inj (ep'.symm.trans ep)
      refine ⟨rfl, nv p', rfl, .ref a, rfl, a, _, rfl, .inl (O2.seq ha.nl), p', o.length, ?_, hQ _ O2⟩
      rw [List.length_map]
      rfl
    · refine ⟨D, o.map fun p => decide (p < o.length), rfl, .inl (.inl (by rw [O3.l0, List.map_map]; rfl)), ?_⟩
      have e : (o.map fun p => decide (p < o.length)).all id = true := by
        rw [List.all_map, List.all_eq_true]
        intro p h
        exact decide_eq_true (perm_small hp h)
      rw [e]
      refine ⟨true, rfl, iteF ?_⟩
      refine ⟨.ref a, rfl, a, o.map fun n : Nat => (n : Int), rfl, by rw [← nvs]; exact O3.seq ha.nl, by rw [List.length_map]; omega, fun sp c nsp _ hc => ?_⟩
      have hc : c = o.length := by
        rw [hc (by rw [List.nodup_iff_pairwise_ne, List.pairwise_map]; exact (perm_nodup hp).imp fun h e => h (by omega)), List.length_map]
      have O4 := own_new (o := SetO w sp (fun j => decide (j ∈ o.map fun n : Nat => (n : Int))) c) O3.drop nsp
      refine ⟨sp, _, c, rfl, O4.l0, .ref a, rfl, a, _, rfl, .inl (O4.seq ha.nl), rfl, ?_⟩
      rw [List.length_map, hc, decide_eq_true rfl]
      rw [hc] at O4
      exact q _ O4.drop
def sp_look_order (K : PySem.W.Frag) (T : TL) : Sp := fun vs H Q _ => ∃ (G : Hp) (l : List (Addr × HO)) (a : Addr) (o : List Nat), vs = [.ref a] ∧ Own T G H l ∧ GL G a o ∧ o.Perm (List.range o.length) ∧ o.length ≤ 200 ∧ ∀ H', Own T G H' l → Q .non H'
theorem sc_look_order : FnScope ["order"] ["order"] (defScope s_look_order) := ⟨rfl, rfl, rfl, by decide +kernel, rfl, by decide +kernel, by decide +kernel⟩
theorem cal_look_order (t : Ctx K mg base T) : Cal P w K mg base 3 "look_order" ["order"] (sp_look_order K T) := by
  refine cal_of t.d_look_order t.g_look_order sc_look_order (fun _ _ _ _ _ _ us hl => match us, hl with | [_], _ => rfl) (fun vs H Q E h => ?_) (fun cdv A outer s H vs Q E hr h => ?_)
  · obtain ⟨G, l, a, o, rfl, _⟩ := h
    rfl
  · obtain ⟨G, l, a, o, rfl, O, ha, hp, hn, q⟩ := h
    refine ⟨_, (pss_one (ps_if (pt_not (pt_val (pe_cal (cal_is_order t) hr (pa_cons (pv 0) pa_nil))))
        (pss_one (ps_never))
        pss_nil)), ?_⟩
    exact ⟨.ref a, rfl, G, l, a, o, rfl, O, ha, hp, hn, fun H' O' => ⟨true, rfl, iteF (q _ O')⟩⟩
def sp_look_as_many (K : PySem.W.Frag) (T : TL) : Sp := fun vs H Q _ => ∃ (a b : Addr) (us ws : List V), vs = [.ref a, .ref b] ∧ SqL K H a us ∧ SqL K H b ws ∧ us.length = ws.length ∧ Q .non H
theorem sc_look_as_many : FnScope ["things", "order"] ["things", "order"] (defScope s_look_as_many) := ⟨rfl, rfl, rfl, by decide +kernel, rfl, by decide +kernel, by decide +kernel⟩
theorem cal_look_as_many (t : Ctx K mg base T) : Cal P w K mg base 1 "look_as_many" ["things", "order"] (sp_look_as_many K T) := by
  refine cal_of t.d_look_as_many t.g_look_as_many sc_look_as_many (fun _ _ _ _ _ _ us hl => match us, hl with | [_, _], _ => rfl) (fun vs H Q E h => ?_) (fun cdv A outer s H vs Q E hr h => ?_)
  · obtain ⟨a, b, us, ws, rfl, _⟩ := h
    rfl
  · obtain ⟨a, b, us, ws, rfl, ha, hb, hl, q⟩ := h
    refine ⟨_, (pss_one (ps_if (pt_cmpR op_ne (pe_callB lenK (by rfl) t.len (by decide +kernel) (pa_cons (pv 0) pa_nil)) (pe_callB lenK (by rfl) t.len (by decide +kernel) (pa_cons (pv 1) pa_nil)) (nomark _))
        (pss_one (ps_never))
        pss_nil)), ?_⟩
    refine ⟨.ref a, rfl, a, us, rfl, .inl ha, .ref b, rfl, b, ws, rfl, .inl hb, rfl, _, rfl, ?_⟩
    rw [hl, decide_eq_true rfl]
    exact iteF q
def sp_put (K : PySem.W.Frag) (T : TL) : Sp := fun vs H Q _ => ∃ (G : Hp) (l : List (Addr × HO)) (a oa : Addr) (us : List V) (o : List Nat), vs = [.ref a, .ref oa] ∧ Own T G H l ∧ SqL K G a us ∧ GL G oa o ∧ o.Perm (List.range us.length) ∧ us.length ≤ 200 ∧
  ∀ H' p, Own T G H' ((p, .lst (o.map fun i => us.getD i .non)) :: l) → Q (.ref p) H'
theorem sc_put : FnScope ["things", "order", "place"] ["things", "order"] (defScope s_put) := ⟨rfl, rfl, rfl, by decide +kernel, rfl, by decide +kernel, by decide +kernel⟩
theorem cal_put (t : Ctx K mg base T) : Cal P w K mg base 4 "put" ["things", "order"] (sp_put K T) := by
  refine cal_of t.d_put t.g_put sc_put (fun _ _ _ _ _ _ us hl => match us, hl with | [_, _], _ => rfl) (fun vs H Q E h => ?_) (fun cdv A outer s H vs Q E hr h => ?_)
  · obtain ⟨G, l, a, oa, us, o, rfl, _⟩ := h
    rfl
  · obtain ⟨G, l, a, oa, us, o, rfl, O, ha, ho, hp, hn, q⟩ := h
    refine ⟨_, (pss_cons (ps_expr (pe_cal (cal_look_order t) hr (pa_cons (pv 1) pa_nil)))
      (pss_cons (ps_expr (pe_cal (cal_look_as_many t) hr (pa_cons (pv 0) (pa_cons (pv 1) pa_nil))))
      (pss_one (ps_ret (pe_lc (own := [("place", 2)]) (g := gName 2) (tt := tYes) (by rfl) sc_put.nd (piL (pv 1)) (blkOk_by (own := [("place", 2)]) (N := ["things", "order", "place"]) (sc := defScope s_put) (by decide +kernel)) (fun _ _ _ _ _ => (pg_name (i := 2) sc_put.nd rfl (.inl rfl))) (fun _ _ _ _ _ => pts_nil) (fun _ _ _ _ _ => (pe_ix ixL (pv 0) (pv 2) (fun _ _ => rfl)))))))), ?_⟩
    have hl := perm_len hp
    refine ⟨.ref oa, rfl, G, l, oa, o, rfl, O, ho, by rw [hl]; exact hp, by omega, fun H1 O1 => ?_⟩
    refine ⟨.ref a, rfl, .ref oa, rfl, a, oa, us, _, rfl, O1.seq ha, O1.seq ho.nl, by rw [List.length_map, hl], ?_⟩
    refine ⟨.ref oa, rfl, oa, rfl, ⟨_, O1.seq ho.nl⟩, fun D nD => lc_valS [some (.ref a), some (.ref oa), none] rfl (ys := o) walk_list O1 nD (by simp) (by rw [List.length_map]; omega) (fun i => us.getD i .non) (fun H' s => s.seq ho.nl) (fun i x p H1 H2 acc Qc hi ep O2 hy hQ => ?_) (fun H3 O3 => q _ _ O3)⟩
    obtain ⟨rfl, hy⟩ := hy
    obtain ⟨p', ep', rfl⟩ := map_at hy
    obtain rfl : p' = p := Option.some.inj (ep'.symm.trans ep)
    have hp' := perm_small hp (List.mem_of_getElem? ep)
    exact ⟨rfl, .ref a, rfl, nv p', rfl, a, us, _, _, rfl, rfl, O2.seq ha, atI_v (by simp [List.getD, hp'] : us[p']? = some (us.getD p' .non)), hQ _ O2⟩
def sp_back_of (K : PySem.W.Frag) (T : TL) : Sp := fun vs H Q _ => ∃ (G : Hp) (l : List (Addr × HO)) (oa : Addr) (o : List Nat), vs = [.ref oa] ∧ Own T G H l ∧ GL G oa o ∧ o.Perm (List.range o.length) ∧ o.length ≤ 200 ∧
  ∀ H' p, Own T G H' ((p, .lst (((List.range o.length).map fun k => o.idxOf k).map nv)) :: l) → Q (.ref p) H'
theorem sc_back_of : FnScope ["order", "back", "place", "came"] ["order"] (defScope s_back_of) := ⟨rfl, rfl, rfl, by decide +kernel, rfl, by decide +kernel, by decide +kernel⟩
theorem cal_back_of (t : Ctx K mg base T) : Cal P w K mg base 4 "back_of" ["order"] (sp_back_of K T) := by
  refine cal_of t.d_back_of t.g_back_of sc_back_of (fun _ _ _ _ _ _ us hl => match us, hl with | [_], _ => rfl) (fun vs H Q E h => ?_) (fun cdv A outer s H vs Q E hr h => ?_)
  · obtain ⟨G, l, oa, o, rfl, _⟩ := h
    rfl
  · obtain ⟨G, l, oa, o, rfl, O, ho, hp, hn, q⟩ := h
    refine ⟨_, (pss_cons (ps_expr (pe_cal (cal_look_order t) hr (pa_cons (pv 0) pa_nil)))
      (pss_cons (ps_set (i := 1) sc_back_of.nd rfl (.inl rfl) (pe_op op_rep (pe_lst (pa_cons pe_int pa_nil)) (pe_callB lenK (by rfl) t.len (by decide +kernel) (pa_cons (pv 0) pa_nil))))
      (pss_cons (ps_for PassesOwn.never rfl (pi_enum (by rfl) t.enumerate (pa_cons (pv 0) pa_nil)) (pg_tup (by rfl) (pgs_cons (pg_name (i := 2) sc_back_of.nd rfl (.inl rfl)) (pgs_cons (pg_name (i := 3) sc_back_of.nd rfl (.inl rfl)) pgs_nil)))
        (pss_one (ps_asg (pv 2) (pg_sub (pv 1) (pv 3) set_list))))
      (pss_one (ps_ret (pv 1)))))), ?_⟩
    refine ⟨.ref oa, rfl, G, l, oa, o, rfl, O, ho, hp, hn, fun H1 O1 => ?_⟩
    refine ⟨sz (by show 1 ≤ _; omega), fun p1 n1 => ⟨.ref oa, rfl, oa, _, rfl, .inl ((own_new (o := .lst [V.int 0]) O1 n1).seq ho.nl), _, _, _, rfl, rfl, upd_same, by omega, by rw [List.length_map]; omega, by rw [List.length_map]; show 1 * _ ≤ _; exact sz (by omega), fun p2 n2 => ?_⟩⟩
    have e0 : (List.replicate (((o.map nv).length : Nat) : Int).toNat [V.int 0]).flatten = (bkw o 0).map nv := by
      rw [List.length_map, Int.toNat_natCast]
      unfold bkw
      simp
      apply List.ext_getElem <;> simp
    rw [e0]
    have O2 := own_new (o := .lst ((bkw o 0).map nv)) (own_new (o := .lst [V.int 0]) O1 n1).drop n2
    refine ⟨.ref oa, rfl, oa, _, rfl, O2.seq ho.nl, for_it walk_enum (fun i σ H' => ∃ y2 y3, σ = [some (.ref oa), some (.ref p2), y2, y3] ∧ Own T G H' ((p2, .lst ((bkw o i).map nv)) :: l)) ⟨none, none, rfl, O2⟩ (fun i σ H' _ ⟨_, _, _, O3⟩ => O3.seq ho.nl) (fun i x σ H4 H5 hi ⟨y2, y3, e, O3⟩ hy => ?_) (fun σ H4 ⟨y2, y3, e, O3⟩ => ?_)⟩
    · subst e
      obtain ⟨Tp, x1, x2, rfl, nT, rfl, e1, e2⟩ := hy
      obtain rfl : .int (i : Int) = x1 := Option.some.inj e1
      obtain ⟨c, ec, rfl⟩ := map_at e2
      have hc := perm_small hp (List.mem_of_getElem? ec)
      have O4 := own_new (o := .tup [nv i, nv c]) O3 nT
      refine ⟨Tp, _, rfl, .inl (.inl O4.l0), rfl, nv i, _, rfl, nv c, _, rfl, rfl, nv i, rfl, .ref p2, rfl, nv c, rfl, p2, _, _, c, rfl, rfl, O4.l1, ixN_n (by simp [bkw]; exact hc), some (nv i), some (nv c), rfl, ?_⟩
      rw [map_set', bkw_step (perm_nodup hp) ec hc]
      exact own_set O4.drop 0 rfl
    · subst e
      rw [List.length_map, bkw_end hp] at O3
      exact ⟨_, rfl, q _ _ O3⟩
def sp_own_keys (K : PySem.W.Frag) (T : TL) : Sp := fun vs H Q _ => ∃ (G : Hp) (l : List (Addr × HO)) (a : Addr) (kd : Kd) (us : List V) (ks : List Ky), vs = [.str kd.s, .ref a] ∧ Own T G H l ∧ SqL K G a us ∧ Keys K G us ks ∧ (∀ k ∈ ks, KyOk kd k) ∧ ks.length ≤ 1000 ∧
  ∀ H' p, Own T G H' ((p, .lst us) :: l) → Q (.ref p) H'
theorem sc_own_keys : FnScope ["kind", "keys", "key"] ["kind", "keys"] (defScope s_own_keys) := ⟨rfl, rfl, rfl, by decide +kernel, rfl, by decide +kernel, by decide +kernel⟩
theorem cal_own_keys (t : Ctx K mg base T) : Cal P w K mg base 1 "own_keys" ["kind", "keys"] (sp_own_keys K T) := by
  refine cal_of t.d_own_keys t.g_own_keys sc_own_keys (fun _ _ _ _ _ _ us hl => match us, hl with | [_, _], _ => rfl) (fun vs H Q E h => ?_) (fun cdv A outer s H vs Q E hr h => ?_)
  · obtain ⟨G, l, a, kd, us, ks, rfl, _⟩ := h
    rfl
  · obtain ⟨G, l, a, kd, us, ks, rfl, O, ha, hk, ho, hn, q⟩ := h
    refine ⟨_, (pss_one (ps_ret (pe_lc (own := [("key", 2)]) (g := gName 2) (tt := tYes) (by rfl) sc_own_keys.nd (piL (pv 1)) (blkOk_by (own := [("key", 2)]) (N := ["kind", "keys", "key"]) (sc := defScope s_own_keys) (by decide +kernel)) (fun _ _ _ _ _ => (pg_name (i := 2) sc_own_keys.nd rfl (.inl rfl))) (fun _ _ _ _ _ => pts_nil) (fun _ _ _ _ _ => (pe_ifExp (pt_cmpR op_eq (pv 0) (pe_gs t.c_PART) (nomark _)) (pe_callTy tupT (by rfl) t.tuple (by decide +kernel) (pa_cons (pv 2) pa_nil)) (pv 2)))))), ?_⟩
    have hl := hk.1
    refine ⟨.ref a, rfl, a, rfl, ⟨_, O.seq ha⟩, fun D nD => lc_valS [some (.str kd.s), some (.ref a), none] rfl (ys := us) walk_list O nD rfl (by omega) id (fun H' s => s.seq ha) (fun i x u H1 H2 acc Qc hi eu O2 hy hQ => ?_) (fun H3 O3 => q _ _ (by rw [List.map_id] at O3; exact O3))⟩
    obtain ⟨rfl, hy⟩ := hy
    obtain rfl : u = x := Option.some.inj (eu.symm.trans hy)
    obtain ⟨k, ek, hv⟩ := hk.at_v eu
    have hok := ho k (List.mem_of_getElem? ek)
    refine ⟨rfl, .str kd.s, rfl, rfl, _, rfl, ite2 (fun h => ?_) (fun h => ?_)⟩
    · cases kd with
      | N => exact absurd (of_decide_eq_true h) (by decide)
      | X => exact absurd (of_decide_eq_true h) (by decide)
      | P =>
        cases k with
        | num n => exact False.elim hok
        | txt z => exact False.elim hok
        | prt x y =>
          obtain ⟨t, rfl, ht⟩ := hv
          exact ⟨.ref t, rfl, t, _, rfl, O2.tup ht, hQ _ O2⟩
    · exact ⟨u, rfl, hQ _ O2⟩
def sp_ordered (K : PySem.W.Frag) (T : TL) : Sp := fun vs H Q _ => ∃ (G : Hp) (l : List (Addr × HO)) (a : Addr) (wy : Str) (kd : Kd) (us : List V) (ks : List Ky) (b : Nat), vs = [.str wy, .str kd.s, .ref a, nv b] ∧ (wy = "last" ∨ wy = "first" ∨ wy = "runs") ∧ Own T G H l ∧ SqL K G a us ∧ Keys K G us ks ∧ (∀ k ∈ ks, KyOk kd k) ∧ ks.length ≤ 200 ∧ 2 ≤ b ∧ b ≤ 64 ∧
  ∀ G' H' p pk ol (z : Int) o, Same G G' → Own T G' H' l → SqT K G' p [.ref pk, .ref ol, .int z] → SqL K G' pk (o.map fun i => us.getD i .non) → IsOrd (klt ks) ks.length o → Q (.ref p) H'
theorem sc_ordered : FnScope ["way", "kind", "keys", "base", "own_base", "rows", "order", "many"] ["way", "kind", "keys", "base"] (defScope s_ordered) := ⟨rfl, rfl, rfl, by decide +kernel, rfl, by decide +kernel, by decide +kernel⟩
theorem cal_ordered (t : Ctx K mg base T) : Cal P w K mg base 5 "ordered" ["way", "kind", "keys", "base"] (sp_ordered K T) := by
  refine cal_of t.d_ordered t.g_ordered sc_ordered (fun _ _ _ _ _ _ us hl => match us, hl with | [_, _, _, _], _ => rfl) (fun vs H Q E h => ?_) (fun cdv A outer s H vs Q E hr h => ?_)
  · obtain ⟨G, l, a, wy, kd, us, ks, b, rfl, _⟩ := h
    rfl
  · obtain ⟨G, l, a, wy, kd, us, ks, b, rfl, hw, O, ha, hk, ho, hn, hb, hb2, q⟩ := h
    refine ⟨_, (pss_cons (ps_asg (pe_cal (cal_spelled t) hr (pa_cons (pv 1) (pa_cons (pv 2) (pa_cons (pv 3) pa_nil)))) (pg_tup (by rfl) (pgs_cons (pg_name (i := 4) sc_ordered.nd rfl (.inl rfl)) (pgs_cons (pg_name (i := 5) sc_ordered.nd rfl (.inl rfl)) pgs_nil))))
      (pss_cons (ps_asg (pe_cal (cal_done_by t) hr (pa_cons (pv 0) (pa_cons (pv 5) (pa_cons (pv 4) pa_nil)))) (pg_tup (by rfl) (pgs_cons (pg_name (i := 6) sc_ordered.nd rfl (.inl rfl)) (pgs_cons (pg_name (i := 7) sc_ordered.nd rfl (.inl rfl)) pgs_nil))))
      (pss_one (ps_ret (pe_tup (pa_cons (pe_cal (cal_put t) hr (pa_cons (pe_cal (cal_own_keys t) hr (pa_cons (pv 1) (pa_cons (pv 2) pa_nil))) (pa_cons (pv 6) pa_nil))) (pa_cons (pv 6) (pa_cons (pv 7) pa_nil)))))))), ?_⟩
    have hl := hk.1
    refine ⟨.str kd.s, rfl, .ref a, rfl, nv b, rfl, G, l, a, kd, us, ks, b, rfl, O, ha, hk, ho, by omega, hb, hb2, fun G1 H1 p1 rl us' rows b' s1 O1 hp1 hrl hR hS => ?_⟩
    refine ⟨p1, _, rfl, O1.tup hp1, rfl, nv b', _, rfl, .ref rl, _, rfl, rfl, ?_⟩
    refine ⟨.str wy, rfl, .ref rl, rfl, nv b', rfl, G1, l, rl, wy, us', rows, b', rfl, hw, O1, hrl, hR, hS.rows hn, fun G2 H2 p2 ol z o s2 O2 hp2 hol hI => ?_⟩
    rw [hS.1] at hI
    have hI := hI.iff hS.2.2.2.2.2
    refine ⟨p2, _, rfl, O2.tup hp2, rfl, .ref ol, _, rfl, .int z, _, rfl, rfl, ?_⟩
    have s12 := s1.trans s2
    refine ⟨.str kd.s, rfl, .ref a, rfl, G2, l, a, kd, us, ks, rfl, O2, s12.seq ha, hk.up s12, ho, by omega, fun H3 p3 O3 => ?_⟩
    refine ⟨.ref ol, rfl, _, l, p3, ol, us, o, rfl, O3.frz, .inl (.inl upd_same), O3.gup _ _ hol, by rw [hl]; exact hI.1, by omega, fun H4 p4 O4 => ?_⟩
    refine ⟨.ref ol, rfl, .int z, rfl, three_ok, fun p5 n5 => ?_⟩
    have O5 := own_new (o := .tup [.ref p4, .ref ol, .int z]) O4.frz n5
    exact q _ _ p5 p4 ol z o (((s12.trans O3.gup).trans O4.gup).trans O5.gup) O5.frz (.inl (.inl upd_same)) (O5.gup.seq (.inl (.inl upd_same))) hI
end
end Fs

set_option maxHeartbeats 4000000
/-! Rings of an order. -/
namespace Fs
open PySem PySem.Spec PyProof.Rows L2
/-- j steps on from k -/
def it (f : Nat → Nat) (k : Nat) : Nat → Nat
  | 0 => k
  | j + 1 => f (it f k j)
def Per (f : Nat → Nat) (k m : Nat) : Prop := 1 ≤ m ∧ it f k m = k ∧ ∀ j, 1 ≤ j → j < m → it f k j ≠ k
section
variable {f : Nat → Nat} {k m n : Nat}
theorem Per.one {m' : Nat} (h : Per f k m) (h' : Per f k m') : m = m' := by
  rcases Nat.lt_trichotomy m m' with g | g | g
  · exact absurd h.2.1 (h'.2.2 m h.1 g)
  · exact g
  · exact absurd h'.2.1 (h.2.2 m' h'.1 g)
theorem least_per (h : ∃ m, 1 ≤ m ∧ m ≤ n ∧ it f k m = k) : ∃ m, m ≤ n ∧ Per f k m := by
  obtain ⟨m, h1, h2, h3⟩ := h
  induction m using Nat.strongRecOn with
  | _ m ih =>
    by_cases h : ∃ j, 1 ≤ j ∧ j < m ∧ it f k j = k
    · obtain ⟨j, j1, j2, j3⟩ := h
      exact ih j j2 j1 (by omega) j3
    · exact ⟨m, h2, h1, h3, fun j j1 j2 j3 => h ⟨j, j1, j2, j3⟩⟩
theorem it_small (hf : ∀ p, p < n → f p < n) (hk : k < n) : ∀ j, it f k j < n
  | 0 => hk
  | j + 1 => hf _ (it_small hf hk j)
theorem it_back (hf : ∀ p, p < n → f p < n) (inj : ∀ p q, p < n → q < n → f p = f q → p = q) (hk : k < n) : ∀ i d, it f k i = it f k (i + d) → it f k d = k
  | 0, d, h => by rw [Nat.zero_add] at h; exact h.symm
  | i + 1, d, h => by
    refine it_back hf inj hk i d (inj _ _ (it_small hf hk _) (it_small hf hk _) ?_)
    rw [show i + 1 + d = (i + d) + 1 by omega] at h
    exact h
theorem has_per (hf : ∀ p, p < n → f p < n) (inj : ∀ p q, p < n → q < n → f p = f q → p = q) (hk : k < n) : ∃ m, m ≤ n ∧ Per f k m := by
  refine least_per ?_
  by_cases hn : ((List.range (n + 1)).map (it f k)).Nodup
  · have := nodup_le _ (List.range n) hn fun x hx => by
      obtain ⟨j, _, rfl⟩ := List.mem_map.mp hx
      exact List.mem_range.mpr (it_small hf hk j)
    simp at this
    omega
  · have : ∃ i j, i < j ∧ j < n + 1 ∧ it f k i = it f k j := by
      refine Classical.byContradiction fun h => hn ?_
      rw [List.nodup_iff_pairwise_ne, List.pairwise_map]
      exact List.pairwise_lt_range.imp_of_mem fun {i j} _ hj hij e => h ⟨i, j, hij, List.mem_range.mp hj, e⟩
    obtain ⟨i, j, h1, h2, h3⟩ := this
    exact ⟨j - i, by omega, by omega, it_back hf inj hk i (j - i) (by rw [show i + (j - i) = j by omega]; exact h3)⟩
/-- its ring -/
noncomputable def per (f : Nat → Nat) (k : Nat) : Nat := Classical.epsilon fun m => Per f k m
noncomputable def ringOf (f : Nat → Nat) (k : Nat) : List Nat := (List.range (per f k)).map (it f k)
theorem per_eq (h : Per f k m) : per f k = m := Per.one (Classical.epsilon_spec (p := fun m => Per f k m) ⟨m, h⟩) h
theorem per_ok (hf : ∀ p, p < n → f p < n) (inj : ∀ p q, p < n → q < n → f p = f q → p = q) (hk : k < n) : Per f k (per f k) ∧ per f k ≤ n := by
  obtain ⟨m, h1, h2⟩ := has_per hf inj hk
  rw [per_eq h2]
  exact ⟨h2, h1⟩
theorem ring_len : (ringOf f k).length = per f k := by simp [ringOf]
theorem ring_mem {x : Nat} (hf : ∀ p, p < n → f p < n) (hk : k < n) (h : x ∈ ringOf f k) : x < n := by
  obtain ⟨j, _, rfl⟩ := List.mem_map.mp h
  exact it_small hf hk j
/-- the rings that begin below i -/
noncomputable def rgs (f : Nat → Nat) : Nat → List (List Nat)
  | 0 => []
  | i + 1 => if i ∈ (rgs f i).flatten ∨ per f i = 1 then rgs f i else rgs f i ++ [ringOf f i]
theorem rgs_small (hf : ∀ p, p < n → f p < n) : ∀ i, i ≤ n → ∀ r ∈ rgs f i, ∀ x ∈ r, x < n
  | 0, _, r, h, _, _ => nomatch h
  | i + 1, hi, r, h, x, hx => by
    unfold rgs at h
    split at h
    · exact rgs_small hf i (by omega) r h x hx
    · rcases List.mem_append.mp h with h | h
      · exact rgs_small hf i (by omega) r h x hx
      · rw [List.mem_singleton.mp h] at hx
        exact ring_mem hf (by omega) hx
theorem rgs_len : ∀ i, (rgs f i).length ≤ i
  | 0 => Nat.le_refl _
  | i + 1 => by
    have := rgs_len i
    unfold rgs
    split
    · omega
    · rw [List.length_append, List.length_singleton]
      omega
theorem rgs_ring (hf : ∀ p, p < n → f p < n) (inj : ∀ p q, p < n → q < n → f p = f q → p = q) : ∀ i, i ≤ n → ∀ r ∈ rgs f i, 2 ≤ r.length ∧ r.length ≤ n
  | 0, _, r, h => nomatch h
  | i + 1, hi, r, h => by
    unfold rgs at h
    split at h
    · exact rgs_ring hf inj i (by omega) r h
    · rename_i hc
      rcases List.mem_append.mp h with h | h
      · exact rgs_ring hf inj i (by omega) r h
      · rw [List.mem_singleton.mp h, ring_len]
        obtain ⟨h1, h2⟩ := per_ok hf inj (k := i) (by omega)
        have := h1.1
        have : per f i ≠ 1 := fun e => hc (.inr e)
        omega
end
/-- an order's steps -/
def stp (o : List Nat) (p : Nat) : Nat := o.getD p 0
theorem stp_at {o : List Nat} {p : Nat} (h : p < o.length) : o[p]? = some (stp o p) := by simp [stp, List.getD, h]
theorem stp_small {o : List Nat} (h : o.Perm (List.range o.length)) : ∀ p, p < o.length → stp o p < o.length := fun p hp => List.mem_range.mp (h.mem_iff.mp (List.mem_of_getElem? (stp_at hp)))
theorem stp_inj {o : List Nat} (h : o.Perm (List.range o.length)) : ∀ p q, p < o.length → q < o.length → stp o p = stp o q → p = q := by
  intro p q hp hq e
  have hn : o.Nodup := h.nodup_iff.mpr List.nodup_range
  have e1 := stp_at hp
  have e2 := stp_at hq
  rw [e] at e1
  obtain ⟨_, a⟩ := List.getElem?_eq_some_iff.mp e1
  obtain ⟨_, b⟩ := List.getElem?_eq_some_iff.mp e2
  exact (List.getElem_inj hn).mp (a.trans b.symm)
/-! ### moves -/
inductive Mv
  | take (p : Nat)
  | move (s p : Nat)
  | lay (p : Nat)
def movesOf (r : List Nat) : List Mv := [Mv.take (r.headD 0)] ++ (r.zip (r.drop 1)).map (fun p => Mv.move p.2 p.1) ++ [Mv.lay (r.getLastD 0)]
def MvV (K : PySem.W.Frag) (G : Hp) (v : V) : Mv → Prop
  | .take p => ∃ t, v = .ref t ∧ SqT K G t [.str "take", nv p]
  | .move s p => ∃ t, v = .ref t ∧ SqT K G t [.str "move", nv s, nv p]
  | .lay p => ∃ t, v = .ref t ∧ SqT K G t [.str "lay", nv p]
end Fs

set_option maxHeartbeats 4000000
/-! Rings; walking them. -/
namespace Fs
open PySem PySem.Spec PyProof.Rows L2
def LV (G : Hp) (v : V) (r : List Nat) : Prop := ∃ a, v = .ref a ∧ GL G a r
theorem LV.up {G G' : Hp} (s : Same G G') {v : V} {r : List Nat} (h : LV G v r) : LV G' v r := by
  obtain ⟨a, e, h⟩ := h
  exact ⟨a, e, s _ _ h⟩
theorem MvV.up {K : PySem.W.Frag} {G G' : Hp} (s : Same G G') {v : V} {m : Mv} (h : MvV K G v m) : MvV K G' v m := by
  cases m <;> (obtain ⟨t, e, h⟩ := h; exact ⟨t, e, Same.tup s h⟩)
theorem it_range (f : Nat → Nat) (k j : Nat) : ((List.range (j + 1)).map (it f k)).map nv = ((List.range j).map (it f k)).map nv ++ [nv (it f k j)] := by
  rw [List.range_succ, List.map_append (f := it f k), List.map_append]
  rfl
section
variable {P : Program} {w : World} {K : PySem.W.Frag} {mg : Str → Option Value} {base : Heap} {T : TL}
def sp_ring_from (K : PySem.W.Frag) (T : TL) : Sp := fun vs H Q _ => ∃ (G : Hp) (l : List (Addr × HO)) (oa : Addr) (o : List Nat) (k : Nat), vs = [.ref oa, nv k] ∧ Own T G H l ∧ GL G oa o ∧ o.Perm (List.range o.length) ∧ o.length ≤ 200 ∧ k < o.length ∧
  ∀ H' p, Own T G H' ((p, .lst ((ringOf (stp o) k).map nv)) :: l) → Q (.ref p) H'
theorem sc_ring_from : FnScope ["order", "place", "ring"] ["order", "place"] (defScope s_ring_from) := ⟨rfl, rfl, rfl, by decide +kernel, rfl, by decide +kernel, by decide +kernel⟩
theorem cal_ring_from (t : Ctx K mg base T) : Cal P w K mg base 1 "ring_from" ["order", "place"] (sp_ring_from K T) := by
  refine cal_of t.d_ring_from t.g_ring_from sc_ring_from (fun _ _ _ _ _ _ us hl => match us, hl with | [_, _], _ => rfl) (fun vs H Q E h => ?_) (fun cdv A outer s H vs Q E hr h => ?_)
  · obtain ⟨G, l, oa, o, k, rfl, _⟩ := h
    rfl
  · obtain ⟨G, l, oa, o, k, rfl, O, ho, hp, hn, hk, q⟩ := h
    refine ⟨_, (pss_cons (ps_set (i := 2) sc_ring_from.nd rfl (.inl rfl) (pe_lst (pa_cons (pv 1) pa_nil)))
      (pss_cons (ps_while PassesOwn.never (pt_cmpR op_ne (pe_ix ixL (pv 0) (pe_ix ixL (pv 2) (pe_un un_neg pe_int) (fun _ _ => rfl)) (fun _ _ => rfl)) (pv 1) (nomark _))
        (pss_one (ps_expr (bmK PySem.F.plainAttrs_list PySem.F.slot_list_append PySem.F.type_list_append mt_append (pv 2) (pa_cons (pe_ix ixL (pv 0) (pe_ix ixL (pv 2) (pe_un un_neg pe_int) (fun _ _ => rfl)) (fun _ _ => rfl)) pa_nil)))))
      (pss_one (ps_ret (pv 2))))), ?_⟩
    obtain ⟨hP, hPn⟩ := per_ok (stp_small hp) (stp_inj hp) hk
    have sm : ∀ j, it (stp o) k j < o.length := it_small (stp_small hp) hk
    refine ⟨nv k, rfl, sz (by show 1 ≤ _; omega), fun p n0 => ?_⟩
    have O1 := own_new (o := .lst (((List.range 1).map (it (stp o) k)).map nv)) O n0
    refine ⟨fun m σ H' => ∃ j, σ = [some (.ref oa), some (nv k), some (.ref p)] ∧ Own T G H' ((p, .lst (((List.range (j + 1)).map (it (stp o) k)).map nv)) :: l) ∧ m = per (stp o) k - j ∧ j < per (stp o) k, ⟨_, 0, rfl, O1, rfl, hP.1⟩, fun m σ H' ⟨j, e, O2, hm, hj⟩ => ?_⟩
    subst e
    have hl : SqL K H' p (((List.range j).map (it (stp o) k)).map nv ++ [nv (it (stp o) k j)]) := by
      rw [← it_range]
      exact .inl (.inl O2.l0)
    have es : o[it (stp o) k j]? = some (it (stp o) k (j + 1)) := stp_at (sm j)
    refine ⟨.ref oa, rfl, .ref p, rfl, _, rfl, p, _, _, _, rfl, rfl, hl, atI_last _ _, oa, _, _, _, rfl, rfl, O2.seq ho.nl, atI_map es, nv k, rfl, rfl, _, rfl, ?_⟩
    by_cases h : it (stp o) k (j + 1) = k
    · rw [h, decide_eq_true rfl]
      refine iteF ⟨_, rfl, q _ _ ?_⟩
      have : j + 1 = per (stp o) k := by
        by_cases g : j + 1 < per (stp o) k
        · exact absurd h (hP.2.2 (j + 1) (by omega) g)
        · omega
      rw [this] at O2
      exact O2
    · rw [decide_eq_false (fun e => h (by injection e with e; omega))]
      refine iteT ?_
      refine ⟨fun σ' H'' => ∃ m', m' < m ∧ ∃ j, σ' = [some (.ref oa), some (nv k), some (.ref p)] ∧ Own T G H'' ((p, .lst (((List.range (j + 1)).map (it (stp o) k)).map nv)) :: l) ∧ m' = per (stp o) k - j ∧ j < per (stp o) k, fun _ _ h => h, ?_⟩
      refine ⟨.ref p, rfl, .inl ⟨rfl, _, .inl (.inl O2.l0)⟩, .ref oa, rfl, .ref p, rfl, _, rfl, p, _, _, _, rfl, rfl, hl, atI_last _ _, oa, _, _, _, rfl, rfl, O2.seq ho.nl, atI_map es, p, _, _, rfl, rfl, O2.l0, szm (n := 200) (by simp; omega) (by omega), ?_⟩
      rw [← it_range (stp o) k (j + 1)]
      have : j + 1 < per (stp o) k := by
        by_cases g : j + 1 < per (stp o) k
        · exact g
        · exact absurd (by rw [show j + 1 = per (stp o) k by omega]; exact hP.2.1) h
      exact ⟨per (stp o) k - (j + 1), by omega, j + 1, rfl, own_set O2 0 rfl, rfl, this⟩
theorem putK_le {kvs : List (Key × V)} (k : Key) (v : V) : (putK kvs k v).length ≤ kvs.length + 1 := by
  unfold putK
  split
  · rw [List.length_map]; omega
  · rw [List.length_append]; exact Nat.le_refl _
def sp_rings (K : PySem.W.Frag) (T : TL) : Sp := fun vs H Q _ => ∃ (G : Hp) (l : List (Addr × HO)) (oa : Addr) (o : List Nat), vs = [.ref oa] ∧ Own T G H l ∧ GL G oa o ∧ o.Perm (List.range o.length) ∧ o.length ≤ 200 ∧
  ∀ G' H' p fv, Same G G' → Own T G' H' ((p, .lst fv) :: l) → Each (LV G') fv (rgs (stp o) o.length) → Q (.ref p) H'
def Met (o : List Nat) (i : Nat) (kvs : List (Key × V)) : Prop := ∀ x : Nat, (valV kvs (Sum.inl (x : Int))).isSome = true ↔ x ∈ (rgs (stp o) i).flatten ∨ (x < i ∧ per (stp o) x = 1)
theorem met0 (o : List Nat) : Met o 0 [] := fun x => by
  refine ⟨fun h => (by cases h), fun h => ?_⟩
  rcases h with h | ⟨h, _⟩
  · cases h
  · exact absurd h (Nat.not_lt_zero _)
theorem sc_rings : FnScope ["order", "found", "met", "place", "ring", "one"] ["order"] (defScope s_rings) := ⟨rfl, rfl, rfl, by decide +kernel, rfl, by decide +kernel, by decide +kernel⟩
theorem cal_rings (t : Ctx K mg base T) : Cal P w K mg base 2 "rings" ["order"] (sp_rings K T) := by
  refine cal_of t.d_rings t.g_rings sc_rings (fun _ _ _ _ _ _ us hl => match us, hl with | [_], _ => rfl) (fun vs H Q E h => ?_) (fun cdv A outer s H vs Q E hr h => ?_)
  · obtain ⟨G, l, oa, o, rfl, _⟩ := h
    rfl
  · obtain ⟨G, l, oa, o, rfl, O, ho, hp, hn, q⟩ := h
    have hu := hu_of hr
    refine ⟨_, (pss_cons (ps_set (i := 1) sc_rings.nd rfl (.inl rfl) (pe_lst pa_nil))
      (pss_cons (ps_set (i := 2) sc_rings.nd rfl (.inl rfl) pe_dnewK)
      (pss_cons (ps_for PassesOwn.never rfl (pi_range1 rfl t.range (pa_cons (pe_callB lenK (by rfl) t.len (by decide +kernel) (pa_cons (pv 0) pa_nil)) pa_nil)) (pg_name (i := 3) sc_rings.nd rfl (.inl rfl))
        (pss_one (ps_if (pt_cmp (pc_dnotin hu (pv 3) (pv 2)))
          (pss_cons (ps_set (i := 4) sc_rings.nd rfl (.inl rfl) (pe_cal (cal_ring_from t) hr (pa_cons (pv 0) (pa_cons (pv 3) pa_nil))))
          (pss_cons (ps_for PassesOwn.never rfl (piL (pv 4)) (pg_name (i := 5) sc_rings.nd rfl (.inl rfl))
            (pss_one (ps_dput hu (pv 2) (pv 5) pe_bl rfl)))
          (pss_one (ps_if (pt_cmpR op_gt (pe_callB lenK (by rfl) t.len (by decide +kernel) (pa_cons (pv 4) pa_nil)) pe_int (nomark _))
            (pss_one (ps_expr (bmK PySem.F.plainAttrs_list PySem.F.slot_list_append PySem.F.type_list_append mt_append (pv 1) (pa_cons (pv 4) pa_nil))))
            pss_nil))))
          pss_nil)))
      (pss_one (ps_ret (pv 1)))))), ?_⟩
    refine ⟨Nat.zero_le _, fun pf n0 => ?_⟩
    have O1 := own_new (o := .lst []) O n0
    refine fun md nd => ?_
    have O2 := own_new (o := .dK []) O1 nd
    refine ⟨.ref oa, rfl, oa, _, rfl, .inl (O2.seq ho.nl), _, rfl, by rw [List.length_map]; omega, by rw [List.length_map]; omega, ?_⟩
    rw [List.length_map]
    refine for_it walk_r0 (fun i σ H' => ∃ y3 y4 y5 G' fv kvs, σ = [some (.ref oa), some (.ref pf), some (.ref md), y3, y4, y5] ∧ Same G G' ∧ Own T G' H' ((md, .dK kvs) :: (pf, .lst fv) :: l) ∧ Each (LV G') fv (rgs (stp o) i) ∧ Met o i kvs ∧ kvs.length ≤ i * 200) ⟨none, none, none, G, [], [], rfl, Same.refl _, O2, Each.nil, met0 o, Nat.zero_le _⟩ (fun _ _ _ _ _ => trivial) (fun i x σ H4 H5 hi ⟨y3, y4, y5, G', fv, kvs, e, s, O3, hF, hM, hk⟩ hy => ?_) (fun σ H4 ⟨y3, y4, y5, G', fv, kvs, e, s, O3, hF, hM, hk⟩ => ?_)
    · subst e
      obtain ⟨rfl, rfl⟩ := hy
      have hi : i < o.length := hi
      refine ⟨nv i, rfl, .ref md, rfl, md, _, rfl, DGet.k (k := Sum.inl (i : Int)) O3.l0, _, rfl, ?_⟩
      have hk2 : (i + 1) * 200 = i * 200 + 200 := by omega
      have hk3 : i * 200 ≤ 200 * 200 := Nat.mul_le_mul (by omega) (Nat.le_refl _)
      cases hm : (valV kvs (Sum.inl (i : Int))).isSome with
      | true =>
        refine iteF ?_
        have h1 : i ∈ (rgs (stp o) i).flatten := by
          rcases (hM i).mp hm with h | h
          · exact h
          · omega
        have e1 : rgs (stp o) (i + 1) = rgs (stp o) i := by
          conv => lhs; unfold rgs
          rw [if_pos (.inl h1)]
        refine ⟨some (nv i), y4, y5, G', fv, kvs, rfl, s, O3, by rw [e1]; exact hF, fun x => ?_, by omega⟩
        rw [e1, hM x]
        constructor
        · rintro (h | ⟨h, h'⟩)
          · exact .inl h
          · exact .inr ⟨by omega, h'⟩
        · rintro (h | ⟨h, h'⟩)
          · exact .inl h
          · by_cases e : x = i
            · rw [e]; exact .inl h1
            · exact .inr ⟨by omega, h'⟩
      | false =>
        refine iteT ?_
        have hnot : ¬ i ∈ (rgs (stp o) i).flatten := fun h => by
          have := (hM i).mpr (.inl h)
          rw [hm] at this
          cases this
        obtain ⟨hP, hPn⟩ := per_ok (stp_small hp) (stp_inj hp) hi
        refine ⟨.ref oa, rfl, nv i, rfl, G', _, oa, o, i, rfl, O3, s _ _ ho, hp, hn, hi, fun H6 rp O4 => ?_⟩
        have s4 := O4.gup
        have O5 := O4.frz
        have hrp : GL (upd G' rp (.lst ((ringOf (stp o) i).map nv))) rp (ringOf (stp o) i) := upd_same
        generalize upd G' rp (.lst ((ringOf (stp o) i).map nv)) = G5 at s4 O5 hrp
        have hrl : (ringOf (stp o) i).length ≤ 200 := by rw [ring_len]; omega
        refine ⟨.ref rp, rfl, rp, rfl, ⟨_, O5.seq hrp.nl⟩, for_it walk_list (fun j σ H' => ∃ y5 kvs', σ = [some (.ref oa), some (.ref pf), some (.ref md), some (nv i), some (.ref rp), y5] ∧ Own T G5 H' ((md, .dK kvs') :: (pf, .lst fv) :: l) ∧ (∀ x : Nat, (valV kvs' (Sum.inl (x : Int))).isSome = true ↔ ((valV kvs (Sum.inl (x : Int))).isSome = true ∨ x ∈ (ringOf (stp o) i).take j)) ∧ kvs'.length ≤ kvs.length + j) ⟨y5, kvs, rfl, O5, fun x => by simp, Nat.le_refl _⟩ (fun j σ H' _ ⟨_, _, _, O6, _⟩ => O6.seq hrp.nl) (fun j x σ H7 H8 hj ⟨y5, kvs', e, O6, hM2, hl2⟩ hy => ?_) (fun σ H7 ⟨y5, kvs', e, O6, hM2, hl2⟩ => ?_)⟩
        · subst e
          obtain ⟨rfl, hy⟩ := hy
          obtain ⟨z, ez, rfl⟩ := map_at hy
          rw [List.length_map] at hj
          refine ⟨.ref md, rfl, nv z, rfl, md, _, rfl, DPut.k (k := Sum.inl (z : Int)) O6.l0 (sz' (by omega)), some (nv z), _, rfl, own_set O6 0 rfl, fun x => ?_, ?_⟩
          · rw [valV_put, take_snoc ez, List.mem_append, List.mem_singleton]
            by_cases e : x = z
            · rw [if_pos (by rw [e])]
              exact ⟨fun _ => .inr (.inr e), fun _ => rfl⟩
            · rw [if_neg (fun h => e (by injection h with h; omega)), hM2 x]
              constructor
              · rintro (h | h)
                · exact .inl h
                · exact .inr (.inl h)
              · rintro (h | h | h)
                · exact .inl h
                · exact .inr h
                · exact absurd h e
          · have := putK_le (kvs := kvs') (Sum.inl (z : Int)) (V.bl true)
            omega
        · subst e
          rw [List.length_map, List.take_length] at hM2
          rw [List.length_map] at hl2
          refine ⟨.ref rp, rfl, rp, _, rfl, .inl (O6.seq hrp.nl), _, _, rfl, rfl, _, rfl, ite2 (fun h => ?_) (fun h => ?_)⟩
          · have h1 : per (stp o) i ≠ 1 := fun e => by
              have := of_decide_eq_true h
              rw [List.length_map, ring_len, e] at this
              omega
            have e1 : rgs (stp o) (i + 1) = rgs (stp o) i ++ [ringOf (stp o) i] := by
              conv => lhs; unfold rgs
              rw [if_neg (fun z => z.elim hnot h1)]
            have hfl := rgs_len (f := stp o) i
            refine ⟨.ref pf, rfl, .inl ⟨rfl, _, .inl (.inl O6.l1)⟩, .ref rp, rfl, pf, fv, _, rfl, rfl, O6.l1, sz' (by rw [hF.1]; omega), ?_⟩
            refine ⟨some (nv i), some (.ref rp), y5, G5, fv ++ [V.ref rp], kvs', rfl, s.trans s4, own_set O6 1 rfl, ?_, fun x => ?_, by omega⟩
            · rw [e1]
              exact (hF.mono fun _ _ => LV.up s4).snoc ⟨rp, rfl, hrp⟩
            · rw [hM2 x, e1, hM x, List.flatten_append, List.mem_append]
              simp only [List.flatten_cons, List.flatten_nil, List.append_nil]
              constructor
              · rintro ((h | ⟨h, h'⟩) | h)
                · exact .inl (.inl h)
                · exact .inr ⟨by omega, h'⟩
                · exact .inl (.inr h)
              · rintro ((h | h) | ⟨h, h'⟩)
                · exact .inl (.inl h)
                · exact .inr h
                · by_cases e : x = i
                  · rw [e] at h'; exact absurd h' h1
                  · exact .inl (.inr ⟨by omega, h'⟩)
          · have h1 : per (stp o) i = 1 := by
              have := hP.1
              by_cases e : 1 < per (stp o) i
              · exact absurd (decide_eq_true (by rw [List.length_map, ring_len]; omega : (1 : Int) < ((((ringOf (stp o) i).map nv).length : Nat) : Int))) h
              · omega
            have e1 : rgs (stp o) (i + 1) = rgs (stp o) i := by
              conv => lhs; unfold rgs
              rw [if_pos (.inr h1)]
            have e2 : ringOf (stp o) i = [i] := by
              unfold ringOf
              rw [h1]
              rfl
            refine ⟨some (nv i), some (.ref rp), y5, G5, fv, kvs', rfl, s.trans s4, O6, ?_, fun x => ?_, by omega⟩
            · rw [e1]
              exact hF.mono fun _ _ => LV.up s4
            · rw [hM2 x, e1, hM x, e2, List.mem_singleton]
              constructor
              · rintro ((h | ⟨h, h'⟩) | h)
                · exact .inl h
                · exact .inr ⟨by omega, h'⟩
                · exact .inr ⟨by omega, by rw [h]; exact h1⟩
              · rintro (h | ⟨h, h'⟩)
                · exact .inl (.inl h)
                · by_cases e : x = i
                  · exact .inr e
                  · exact .inl (.inr ⟨by omega, h'⟩)
    · subst e
      exact ⟨_, rfl, q G' _ pf fv s O3.drop hF⟩
end
end Fs

set_option maxHeartbeats 4000000
/-! Walking the rings, one hand. -/
namespace Fs
open PySem PySem.Spec PyProof.Rows L2
/-- a move, its places below n -/
def MvOk (n : Nat) : Mv → Prop
  | .take p => p < n
  | .move s p => s < n ∧ p < n
  | .lay p => p < n
theorem cut_one (vs : List V) : cutV vs (some 1) none = vs.drop 1 := by
  unfold cutV
  rw [show (1 : Int) = ((1 : Nat) : Int) from rfl, HT.sIx_nat, HT.sIx_none]
  cases vs with
  | nil => rfl
  | cons v vs =>
    rw [show min 1 (v :: vs).length = 1 by rw [List.length_cons]; omega, List.take_of_length_le (by rw [List.length_drop]; omega)]
noncomputable def allMoves (o : List Nat) : List Mv := ((rgs (stp o) o.length).map movesOf).flatten
theorem moves_ok {r : List Nat} {n : Nat} (h : ∀ x ∈ r, x < n) (h1 : 1 ≤ r.length) : ∀ m ∈ movesOf r, MvOk n m := by
  intro m hm
  unfold movesOf at hm
  rcases List.mem_append.mp hm with hm | hm
  · rcases List.mem_append.mp hm with hm | hm
    · rw [List.mem_singleton.mp hm]
      cases r with
      | nil => simp at h1
      | cons x r => exact h x (List.mem_cons_self ..)
    · obtain ⟨p, hp, rfl⟩ := List.mem_map.mp hm
      obtain ⟨a, b⟩ := p
      have z := List.of_mem_zip hp
      exact ⟨h _ (List.mem_of_mem_drop z.2), h _ z.1⟩
  · rw [List.mem_singleton.mp hm]
    have hne : r ≠ [] := fun e => by rw [e] at h1; simp at h1
    show r.getLastD 0 < n
    rw [List.getLastD_eq_getLast?, List.getLast?_eq_some_getLast hne]
    exact h _ (List.getLast_mem hne)
theorem allMoves_ok {o : List Nat} (hp : o.Perm (List.range o.length)) : ∀ m ∈ allMoves o, MvOk o.length m := by
  intro m hm
  obtain ⟨l, h1, h2⟩ := List.mem_flatten.mp hm
  obtain ⟨r, h3, rfl⟩ := List.mem_map.mp h1
  have := rgs_ring (stp_small hp) (stp_inj hp) o.length (Nat.le_refl _) r h3
  exact moves_ok (rgs_small (stp_small hp) _ (Nat.le_refl _) r h3) (by omega) m h2
theorem movesOf_len {r : List Nat} (h : 1 ≤ r.length) : (movesOf r).length = r.length + 1 := by
  unfold movesOf
  simp
  omega
section
variable {P : Program} {w : World} {K : PySem.W.Frag} {mg : Str → Option Value} {base : Heap} {T : TL}
abbrev Moves (K : PySem.W.Frag) (G : Hp) (vs : List V) (ms : List Mv) : Prop := Each (MvV K G) vs ms
theorem Moves.up {G G' : Hp} (s : Same G G') {vs : List V} {ms : List Mv} (h : Moves K G vs ms) : Moves K G' vs ms := h.mono fun _ _ => MvV.up s
def sp_moves_of_ringwalk (K : PySem.W.Frag) (T : TL) : Sp := fun vs H Q _ => ∃ (G : Hp) (l : List (Addr × HO)) (a : Addr) (r : List Nat), vs = [.ref a] ∧ Own T G H l ∧ GL G a r ∧ 1 ≤ r.length ∧ r.length ≤ 200 ∧
  ∀ G' H' p mv, Same G G' → Own T G' H' ((p, .lst mv) :: l) → Moves K G' mv (movesOf r) → Q (.ref p) H'
theorem sc_moves_of_ringwalk : FnScope ["ring", "found", "place", "source"] ["ring"] (defScope s_moves_of_ringwalk) := ⟨rfl, rfl, rfl, by decide +kernel, rfl, by decide +kernel, by decide +kernel⟩
theorem cal_moves_of_ringwalk (t : Ctx K mg base T) : Cal P w K mg base 1 "moves_of_ringwalk" ["ring"] (sp_moves_of_ringwalk K T) := by
  refine cal_of t.d_moves_of_ringwalk t.g_moves_of_ringwalk sc_moves_of_ringwalk (fun _ _ _ _ _ _ us hl => match us, hl with | [_], _ => rfl) (fun vs H Q E h => ?_) (fun cdv A outer s H vs Q E hr h => ?_)
  · obtain ⟨G, l, a, r, rfl, _⟩ := h
    rfl
  · obtain ⟨G, l, a, r, rfl, O, ha, h1, h2, q⟩ := h
    refine ⟨_, (pss_cons (ps_set (i := 1) sc_moves_of_ringwalk.nd rfl (.inl rfl) (pe_lst (pa_cons (pe_tup (pa_cons pe_str (pa_cons (pe_ix ixL (pv 0) pe_int (fun _ _ => rfl)) pa_nil))) pa_nil)))
      (pss_cons (ps_for PassesOwn.never rfl (pi_zip (by rfl) t.zip (pa_cons (pv 0) (pa_cons (pe_slice slL (pv 0) (po_some pe_int) po_none) pa_nil))) (pg_tup (by rfl) (pgs_cons (pg_name (i := 2) sc_moves_of_ringwalk.nd rfl (.inl rfl)) (pgs_cons (pg_name (i := 3) sc_moves_of_ringwalk.nd rfl (.inl rfl)) pgs_nil)))
        (pss_one (ps_expr (bmK PySem.F.plainAttrs_list PySem.F.slot_list_append PySem.F.type_list_append mt_append (pv 1) (pa_cons (pe_tup (pa_cons pe_str (pa_cons (pv 3) (pa_cons (pv 2) pa_nil)))) pa_nil)))))
      (pss_cons (ps_expr (bmK PySem.F.plainAttrs_list PySem.F.slot_list_append PySem.F.type_list_append mt_append (pv 1) (pa_cons (pe_tup (pa_cons pe_str (pa_cons (pe_ix ixL (pv 0) (pe_un un_neg pe_int) (fun _ _ => rfl)) pa_nil))) pa_nil)))
      (pss_one (ps_ret (pv 1)))))), ?_⟩
    obtain ⟨x, rs, rfl⟩ : ∃ x rs, r = x :: rs := by
      cases r with
      | nil => simp at h1
      | cons x rs => exact ⟨x, rs, rfl⟩
    refine ⟨.ref a, rfl, a, _, _, _, rfl, rfl, O.seq ha.nl, atI_nat (j := 0) rfl, two_ok, fun t0 nt0 => ?_⟩
    have O1 := own_new (o := .tup [.str "take", nv x]) O nt0
    have s1 := O1.gup
    have O1 := O1.frz
    have m1 : MvV K (upd G t0 (.tup [.str "take", nv x])) (.ref t0) (.take x) := ⟨t0, rfl, .inl (.inl upd_same)⟩
    generalize upd G t0 (.tup [.str "take", nv x]) = G1 at s1 O1 m1
    refine ⟨sz (by show 1 ≤ _; omega), fun pf n1 => ?_⟩
    have O2 := own_new (o := .lst [.ref t0]) O1 n1
    have ha1 : GL G1 a (x :: rs) := s1 _ _ ha
    refine ⟨.ref a, rfl, .ref a, rfl, _, rfl, a, _, rfl, O2.seq ha1.nl, fun p3 n3 => ?_⟩
    rw [cut_one, ← List.map_drop]
    have O3 := own_new (o := .lst ((rs).map nv)) O2 n3
    have s3 := O3.gup
    have O3 := O3.frz
    have hp3 : NL K (upd G1 p3 (.lst (rs.map nv))) p3 rs := .inl (.inl upd_same)
    generalize upd G1 p3 (.lst (rs.map nv)) = G3 at s3 O3 hp3
    have zl : ((x :: rs).zip rs).length = rs.length := by rw [List.length_zip, List.length_cons]; omega
    refine ⟨a, p3, _, _, rfl, O3.seq (s3.seq ha1.nl), .inl (.inl upd_same), for_it (walk_zip (xs := (x :: rs).map nv) (ys := rs.map nv) (n := rs.length) (by simp)) (fun i σ H' => ∃ y2 y3 G' mv, σ = [some (.ref a), some (.ref pf), y2, y3] ∧ Same G3 G' ∧ Own T G' H' ((pf, .lst mv) :: l) ∧ Moves K G' mv ([Mv.take x] ++ (((x :: rs).zip rs).take i).map (fun p => Mv.move p.2 p.1))) ⟨none, none, G3, [.ref t0], rfl, Same.refl _, O3, (Each.one m1).mono fun _ _ => MvV.up s3⟩ (fun i σ H' _ ⟨_, _, G', _, _, s, O4, _⟩ => ⟨O4.seq (s.seq (s3.seq ha1.nl)), O4.seq (s.seq hp3)⟩) (fun i x' σ H4 H5 hi ⟨y2, y3, G', mv, e, s, O4, hm⟩ hy => ?_) (fun σ H4 ⟨y2, y3, G', mv, e, s, O4, hm⟩ => ?_)⟩
    · subst e
      obtain ⟨Tp, x1, x2, rfl, nT, rfl, e1, e2⟩ := hy
      obtain ⟨u, eu, rfl⟩ := map_at e1
      obtain ⟨v, ev, rfl⟩ := map_at e2
      have O5 := own_new (o := .tup [nv u, nv v]) O4 nT
      have ml : mv.length ≤ 300 := by
        rw [hm.1, List.length_append, List.length_map, List.length_take]
        simp at h2
        simp
        omega
      refine ⟨Tp, _, rfl, .inl (.inl O5.l0), rfl, nv u, _, rfl, nv v, _, rfl, rfl, .ref pf, rfl, .inl ⟨rfl, _, .inl (.inl O5.l1)⟩, nv v, rfl, nv u, rfl, three_ok, fun tp ntp => ?_⟩
      have O6 := own_new (o := .tup [.str "move", nv v, nv u]) O5.drop ntp
      refine ⟨pf, mv, _, rfl, rfl, O6.l1, sz' (by omega), some (nv u), some (nv v), _, mv ++ [V.ref tp], rfl, s.trans O6.gup, own_set O6.frz 0 rfl, ?_⟩
      have ez : ((x :: rs).zip rs)[i]? = some (u, v) := by
        rw [List.getElem?_zip_eq_some]
        exact ⟨eu, ev⟩
      rw [take_snoc ez, List.map_append, ← List.append_assoc]
      exact (Moves.up O6.gup hm).snoc ⟨tp, rfl, .inl (.inl upd_same)⟩
    · subst e
      have ml : mv.length ≤ 300 := by
        rw [hm.1, List.length_append, List.length_map, List.length_take]
        simp at h2
        simp
        omega
      have hlast : (x :: rs).map nv = ((x :: rs).dropLast).map nv ++ [nv ((x :: rs).getLastD 0)] := by
        rw [map_snoc]
        congr 1
        rw [List.getLastD_eq_getLast?, List.getLast?_eq_some_getLast (List.cons_ne_nil _ _)]
        exact (List.dropLast_concat_getLast (List.cons_ne_nil _ _)).symm
      refine ⟨.ref pf, rfl, .inl ⟨rfl, _, .inl (.inl O4.l0)⟩, .ref a, rfl, _, rfl, a, _, _, _, rfl, rfl, by rw [← hlast]; exact O4.seq (s.seq (s3.seq ha1.nl)), atI_last _ _, two_ok, fun tp ntp => ?_⟩
      have O6 := own_new (o := .tup [.str "lay", nv ((x :: rs).getLastD 0)]) O4 ntp
      refine ⟨pf, mv, _, rfl, rfl, O6.l1, sz' (by omega), .ref pf, rfl, q _ _ pf (mv ++ [V.ref tp]) (((s1.trans s3).trans s).trans O6.gup) (own_set O6.frz 0 rfl) ?_⟩
      rw [← zl, List.take_length] at hm
      exact (Moves.up O6.gup hm).snoc ⟨tp, rfl, .inl (.inl upd_same)⟩
/-! ### the walk as an object -/
abbrev rwO (K : PySem.W.Frag) (dx p1 p2 : Addr) (h : V) (d : Nat) : HO := .ins (He.ga K "RingWalk") dx [("own_things", .ref p1), ("held", h), ("waiting", .ref p2), ("done", nv d)]
def sp_RingWalk___init__ (K : PySem.W.Frag) (T : TL) : Sp := fun vs H Q _ => ∃ (G : Hp) (l : List (Addr × HO)) (x dx ta oa : Addr) (us : List V) (o : List Nat), vs = [.ref x, .ref ta, .ref oa] ∧ Own T G H ((x, .ins (He.ga K "RingWalk") dx []) :: l) ∧ SqL K G ta us ∧ GL G oa o ∧ o.Perm (List.range us.length) ∧ us.length ≤ 200 ∧
  ∀ G' H' p1 p2 mv, Same G G' → Own T G' H' ((x, rwO K dx p1 p2 .non 0) :: (p1, .lst us) :: (p2, .lst mv) :: l) → Moves K G' mv (allMoves o) → Q .non H'
theorem sc_RingWalk___init__ : FnScope ["self", "things", "order", "ring"] ["self", "things", "order"] (defScope s_RingWalk___init__) := ⟨rfl, rfl, rfl, by decide +kernel, rfl, by decide +kernel, by decide +kernel⟩
theorem kcal_RingWalk (t : Ctx K mg base T) : KCal P w K mg base 3 (He.ga K "RingWalk") "RingWalk" ["self", "things", "order"] (sp_RingWalk___init__ K T) := by
  refine kcal_of t.d_RingWalk___init__ t.g_RingWalk t.mk_RingWalk sc_RingWalk___init__ (fun _ _ _ _ _ _ us hl => match us, hl with | [_, _, _], _ => rfl) (fun vs H Q E h => ?_) (fun cdv A outer s H vs Q E hr h => ?_)
  · obtain ⟨G, l, x, dx, ta, oa, us, o, rfl, _⟩ := h
    rfl
  · obtain ⟨G, l, x, dx, ta, oa, us, o, rfl, O, ht, ho, hp, hn, q⟩ := h
    refine ⟨_, (pss_cons (ps_if (PW.pt (pw_or (pt_not (pt_val (pe_cal (cal_is_order t) hr (pa_cons (pv 2) pa_nil)))) (pw_or1 (pt_cmpR op_ne (pe_callB lenK (by rfl) t.len (by decide +kernel) (pa_cons (pv 2) pa_nil)) (pe_callB lenK (by rfl) t.len (by decide +kernel) (pa_cons (pv 1) pa_nil)) (nomark _)))))
        (pss_one (ps_never))
        pss_nil)
      (pss_cons (ps_fld (pv 0) (pe_callTy listOf (by rfl) t.list (by decide +kernel) (pa_cons (pv 1) pa_nil)) rfl)
      (pss_cons (ps_fld (pv 0) pe_non rfl)
      (pss_cons (ps_fld (pv 0) (pe_lst pa_nil) rfl)
      (pss_cons (ps_for PassesOwn.never rfl (piL (pe_cal (cal_rings t) hr (pa_cons (pv 2) pa_nil))) (pg_name (i := 3) sc_RingWalk___init__.nd rfl (.inl rfl))
        (pss_one (ps_expr (bmK PySem.F.plainAttrs_list PySem.F.slot_list_extend PySem.F.type_list_extend mt_extend (fldK (pv 0) (by rfl)) (pa_cons (pe_cal (cal_moves_of_ringwalk t) hr (pa_cons (pv 3) pa_nil)) pa_nil)))))
      (pss_one (ps_fld (pv 0) pe_int rfl))))))), ?_⟩
    have hl := perm_len hp
    have hp' : o.Perm (List.range o.length) := by rw [hl]; exact hp
    refine ⟨.ref oa, rfl, G, _, oa, o, rfl, O, ho, hp', by omega, fun H1 O1 => ⟨true, rfl, iteF ?_⟩⟩
    refine ⟨.ref oa, rfl, oa, _, rfl, .inl (O1.seq ho.nl), .ref ta, rfl, ta, us, rfl, .inl (O1.seq ht), rfl, _, rfl, ?_⟩
    rw [List.length_map, hl, decide_eq_true rfl]
    refine iteF ?_
    refine ⟨.ref ta, rfl, ta, us, rfl, .inl (O1.seq ht), fun p1 n1 => ?_⟩
    have O2 := own_new (o := .lst us) O1 n1
    refine ⟨.ref x, rfl, x, _, dx, _, rfl, O2.l1, t.k_RingWalk, t.n_RingWalk_own_things, by decide, ?_⟩
    have O3 := own_set (o' := .ins (He.ga K "RingWalk") dx [("own_things", .ref p1)]) O2 1 rfl
    refine ⟨.ref x, rfl, x, _, dx, _, rfl, O3.l1, t.k_RingWalk, t.n_RingWalk_held, (by show 1 < 1000; decide), ?_⟩
    have O4 := own_set (o' := .ins (He.ga K "RingWalk") dx [("own_things", .ref p1), ("held", .non)]) O3 1 rfl
    refine ⟨Nat.zero_le _, fun p2 n2 => ?_⟩
    have O5 := own_new (o := .lst []) O4 n2
    refine ⟨.ref x, rfl, x, _, dx, _, rfl, O5.l2, t.k_RingWalk, t.n_RingWalk_waiting, (by show 2 < 1000; decide), ?_⟩
    have O6 := own_set (o' := .ins (He.ga K "RingWalk") dx [("own_things", .ref p1), ("held", .non), ("waiting", .ref p2)]) O5 2 rfl
    refine ⟨.ref oa, rfl, G, _, oa, o, rfl, O6, ho, hp', by omega, fun G7 H7 pr fv s7 O7 hF => ?_⟩
    have s8 := O7.gup
    have O8 := O7.frz
    refine ⟨pr, rfl, ⟨_, .inl (.inl O7.l0)⟩, for_it walk_list (fun i σ H' => ∃ y3 G' mv, σ = [some (.ref x), some (.ref ta), some (.ref oa), y3] ∧ Same (upd G7 pr (.lst fv)) G' ∧ Own T G' H' ((p2, .lst mv) :: (p1, .lst us) :: (x, .ins (He.ga K "RingWalk") dx [("own_things", .ref p1), ("held", .non), ("waiting", .ref p2)]) :: l) ∧ Moves K G' mv (((rgs (stp o) o.length).take i).map movesOf).flatten ∧ mv.length ≤ i * 201) ⟨none, _, [], rfl, Same.refl _, O8, Each.nil, Nat.zero_le _⟩ (fun i σ H' _ ⟨_, _, _, _, s, O9, _⟩ => O9.seq (s.seq (.inl (.inl upd_same)))) (fun i v σ H9 H10 hi ⟨y3, G', mv, e, s, O9, hm, hml⟩ hy => ?_) (fun σ H9 ⟨y3, G', mv, e, s, O9, hm, hml⟩ => ?_)⟩
    · subst e
      obtain ⟨rfl, hy⟩ := hy
      obtain ⟨r, er, ra, rfl, hr⟩ := hF.at_v hy
      have hr2 := rgs_ring (stp_small hp') (stp_inj hp') o.length (Nat.le_refl _) r (List.mem_of_getElem? er)
      have hi2 : i < 200 := by
        have := rgs_len (f := stp o) o.length
        have := hF.1
        omega
      refine ⟨.ref x, rfl, x, _, dx, _, .ref p2, rfl, O9.l2, t.k_RingWalk, t.n_RingWalk_waiting, rfl, .inl ⟨rfl, _, .inl (.inl O9.l0)⟩, .ref ra, rfl, G', _, ra, r, rfl, O9, s _ _ (s8 _ _ hr), by omega, by omega, fun G11 H11 pm mv2 s11 O11 hm2 => ?_⟩
      have hml2 : mv2.length ≤ 201 := by rw [hm2.1, movesOf_len (by omega)]; omega
      refine ⟨p2, pm, _, _, rfl, rfl, O11.l1, O11.l0, sz (by omega), some (.ref ra), G11, mv ++ mv2, rfl, s.trans s11, (own_set O11 1 rfl).drop, ?_, by rw [List.length_append]; omega⟩
      rw [take_snoc er, List.map_append, List.flatten_append]
      simp only [List.map_cons, List.map_nil, List.flatten_cons, List.flatten_nil, List.append_nil]
      exact (Moves.up s11 hm).app hm2
    · subst e
      rw [hF.1, List.take_length] at hm
      refine ⟨.ref x, rfl, x, _, dx, _, rfl, O9.l2, t.k_RingWalk, t.n_RingWalk_done, (by show 3 < 1000; decide), ?_⟩
      have O10 := own_set (o' := rwO K dx p1 p2 .non 0) O9 2 rfl
      exact q G' _ p1 p2 mv ((s7.trans s8).trans s) (O10.rot.perm ((List.Perm.swap _ _ _).cons _)) hm
def sp_RingWalk_lift (K : PySem.W.Frag) (T : TL) : Sp := fun vs H Q _ => ∃ (G : Hp) (l : List (Addr × HO)) (x dx p1 p2 : Addr) (h : V) (d : Nat) (us : List V) (k : Nat), vs = [.ref x, nv k] ∧ Own T G H ((x, rwO K dx p1 p2 h d) :: (p1, .lst us) :: l) ∧ k < us.length ∧
  ∀ H' v, Own T G H' ((x, rwO K dx p1 p2 h d) :: (p1, .lst (us.set k .non)) :: l) → Q v H'
theorem sc_RingWalk_lift : FnScope ["self", "place", "thing"] ["self", "place"] (defScope s_RingWalk_lift) := ⟨rfl, rfl, rfl, by decide +kernel, rfl, by decide +kernel, by decide +kernel⟩
theorem mcal_RingWalk_lift (t : Ctx K mg base T) : MCal P w K mg base 1 (He.ga K "RingWalk") "lift" ["self", "place"] (sp_RingWalk_lift K T) := by
  refine mcal_of t.d_RingWalk_lift t.k_RingWalk t.m_RingWalk_lift sc_RingWalk_lift (fun _ _ _ _ _ _ us hl => match us, hl with | [_, _], _ => rfl) (fun vs H Q E h => ?_) (fun cdv A outer s H vs Q E hr h => ?_)
  · obtain ⟨G, l, x, dx, p1, p2, h, d, us, k, rfl, _⟩ := h
    rfl
  · obtain ⟨G, l, x, dx, p1, p2, h, d, us, k, rfl, O, hk, q⟩ := h
    refine ⟨_, (pss_cons (ps_set (i := 2) sc_RingWalk_lift.nd rfl (.inl rfl) (pe_ix ixL (fldK (pv 0) (by rfl)) (pv 1) (fun _ _ => rfl)))
      (pss_cons (ps_asg pe_non (pg_sub (fldK (pv 0) (by rfl)) (pv 1) set_list))
      (pss_one (ps_ret (pv 2))))), ?_⟩
    refine ⟨.ref x, rfl, x, _, dx, _, .ref p1, rfl, O.l0, t.k_RingWalk, t.n_RingWalk_own_things, rfl, nv k, rfl, p1, us, _, _, rfl, rfl, .inl (.inl O.l1), atI_v (List.getElem?_eq_getElem hk), ?_⟩
    exact ⟨.ref x, rfl, x, _, dx, _, .ref p1, rfl, O.l0, t.k_RingWalk, t.n_RingWalk_own_things, rfl, nv k, rfl, p1, us, _, k, rfl, rfl, O.l1, ixN_n hk, _, rfl, q _ _ (own_set O 1 rfl)⟩
def sp_RingWalk_step (K : PySem.W.Frag) (T : TL) : Sp := fun vs H Q _ => ∃ (G : Hp) (l : List (Addr × HO)) (x dx p1 p2 : Addr) (h : V) (d : Nat) (us mv : List V) (ms : List Mv), vs = [.ref x] ∧ Own T G H ((x, rwO K dx p1 p2 h d) :: (p1, .lst us) :: (p2, .lst mv) :: l) ∧ Moves K G mv ms ∧ (∀ m ∈ ms, MvOk us.length m) ∧
  (d = mv.length → Q .non H) ∧ (d ≤ mv.length) ∧ ∀ H' h' us' v, mv[d]? = some v → us'.length = us.length → Own T G H' ((x, rwO K dx p1 p2 h' (d + 1)) :: (p1, .lst us') :: (p2, .lst mv) :: l) → Q v H'
theorem sc_RingWalk_step : FnScope ["self", "move"] ["self"] (defScope s_RingWalk_step) := ⟨rfl, rfl, rfl, by decide +kernel, rfl, by decide +kernel, by decide +kernel⟩
theorem mcal_RingWalk_step (t : Ctx K mg base T) : MCal P w K mg base 2 (He.ga K "RingWalk") "step" ["self"] (sp_RingWalk_step K T) := by
  refine mcal_of t.d_RingWalk_step t.k_RingWalk t.m_RingWalk_step sc_RingWalk_step (fun _ _ _ _ _ _ us hl => match us, hl with | [_], _ => rfl) (fun vs H Q E h => ?_) (fun cdv A outer s H vs Q E hr h => ?_)
  · obtain ⟨G, l, x, dx, p1, p2, h, d, us, mv, ms, rfl, _⟩ := h
    rfl
  · obtain ⟨G, l, x, dx, p1, p2, h, d, us, mv, ms, rfl, O, hm, ho, q0, hd, q⟩ := h
    refine ⟨_, (pss_cons (ps_if (pt_cmpR op_eq (fldK (pv 0) (by rfl)) (pe_callB lenK (by rfl) t.len (by decide +kernel) (pa_cons (fldK (pv 0) (by rfl)) pa_nil)) (nomark _))
        (pss_one (ps_ret pe_non))
        pss_nil)
      (pss_cons (ps_set (i := 1) sc_RingWalk_step.nd rfl (.inl rfl) (pe_ix ixL (fldK (pv 0) (by rfl)) (fldK (pv 0) (by rfl)) (fun _ _ => rfl)))
      (pss_cons (ps_fldaug (pv 0) pe_int in_add)
      (pss_cons (ps_if (pt_cmpR op_eq (pe_ix ixT (pv 1) pe_int (fun _ _ => rfl)) pe_str (nomark _))
        (pss_one (ps_fld (pv 0) (pe_mcal (pv 0) (mcal_RingWalk_lift t) hr (pa_cons (pe_ix ixT (pv 1) pe_int (fun _ _ => rfl)) pa_nil)) rfl))
        (pss_one (ps_if (pt_cmpR op_eq (pe_ix ixT (pv 1) pe_int (fun _ _ => rfl)) pe_str (nomark _))
          (pss_one (ps_asg (pe_mcal (pv 0) (mcal_RingWalk_lift t) hr (pa_cons (pe_ix ixT (pv 1) pe_int (fun _ _ => rfl)) pa_nil)) (pg_sub (fldK (pv 0) (by rfl)) (pe_ix ixT (pv 1) pe_int (fun _ _ => rfl)) set_list)))
          (pss_cons (ps_asg (fldK (pv 0) (by rfl)) (pg_sub (fldK (pv 0) (by rfl)) (pe_ix ixT (pv 1) pe_int (fun _ _ => rfl)) set_list))
          (pss_one (ps_fld (pv 0) pe_non rfl))))))
      (pss_one (ps_ret (pv 1))))))), ?_⟩
    refine ⟨.ref x, rfl, x, _, dx, _, nv d, rfl, O.l0, t.k_RingWalk, t.n_RingWalk_done, rfl, .ref x, rfl, x, _, dx, _, .ref p2, rfl, O.l0, t.k_RingWalk, t.n_RingWalk_waiting, rfl, p2, mv, rfl, .inl (.inl (.inl O.l2)), rfl, _, rfl, ite2 (fun e => ?_) (fun e => ?_)⟩
    · refine q0 ?_
      have := of_decide_eq_true e
      injection this with this
      omega
    have hd2 : d < mv.length := by
      have : d ≠ mv.length := fun z => e (decide_eq_true (by rw [z]))
      omega
    have ev : mv[d]? = some mv[d] := List.getElem?_eq_getElem hd2
    obtain ⟨m, em, hv⟩ := hm.at_v ev
    have hok := ho m (List.mem_of_getElem? em)
    refine ⟨.ref x, rfl, x, _, dx, _, .ref p2, rfl, O.l0, t.k_RingWalk, t.n_RingWalk_waiting, rfl, .ref x, rfl, x, _, dx, _, nv d, rfl, O.l0, t.k_RingWalk, t.n_RingWalk_done, rfl, p2, mv, _, _, rfl, rfl, .inl (.inl O.l2), atI_v ev, ?_⟩
    refine ⟨.ref x, rfl, x, _, dx, _, nv d, rfl, O.l0, t.k_RingWalk, t.n_RingWalk_done, rfl, _, _, rfl, rfl, dx, _, O.l0, (by show 4 < 1000; decide), ?_⟩
    have O1 := own_set (o' := rwO K dx p1 p2 h (d + 1)) O 0 rfl
    generalize hvd : mv[d] = vd at hv ev
    cases m with
    | take p =>
      obtain ⟨tm, rfl, htm⟩ := hv
      refine ⟨.ref tm, rfl, tm, _, _, _, rfl, rfl, O1.tup htm, atI_nat (j := 0) rfl, rfl, _, rfl, ite2 (fun _ => ?_) (fun h => absurd (decide_eq_true rfl) h)⟩
      refine ⟨.ref x, rfl, x, dx, _, rfl, O1.l0, rfl, .ref tm, rfl, tm, _, _, _, rfl, rfl, O1.tup htm, atI_nat (j := 1) rfl, G, _, x, dx, p1, p2, h, d + 1, us, p, rfl, O1, hok, fun H2 v O2 => ?_⟩
      refine ⟨.ref x, rfl, x, _, dx, _, rfl, O2.l0, t.k_RingWalk, t.n_RingWalk_held, (by show 4 < 1000; decide), .ref tm, rfl, q _ v (us.set p .non) _ ev (by simp) (own_set O2 0 rfl)⟩
    | move s p =>
      obtain ⟨tm, rfl, htm⟩ := hv
      refine ⟨.ref tm, rfl, tm, _, _, _, rfl, rfl, O1.tup htm, atI_nat (j := 0) rfl, rfl, _, rfl, ite2 (fun h => absurd (of_decide_eq_true h) (by decide)) (fun _ => ?_)⟩
      refine ⟨.ref tm, rfl, tm, _, _, _, rfl, rfl, O1.tup htm, atI_nat (j := 0) rfl, rfl, _, rfl, ite2 (fun _ => ?_) (fun h => absurd (decide_eq_true rfl) h)⟩
      refine ⟨.ref x, rfl, x, dx, _, rfl, O1.l0, rfl, .ref tm, rfl, tm, _, _, _, rfl, rfl, O1.tup htm, atI_nat (j := 1) rfl, G, _, x, dx, p1, p2, h, d + 1, us, s, rfl, O1, hok.1, fun H2 v O2 => ?_⟩
      refine ⟨.ref x, rfl, x, _, dx, _, .ref p1, rfl, O2.l0, t.k_RingWalk, t.n_RingWalk_own_things, rfl, .ref tm, rfl, tm, _, _, _, rfl, rfl, O2.tup htm, atI_nat (j := 2) rfl, p1, _, _, p, rfl, rfl, O2.l1, ixN_n (by rw [List.length_set]; exact hok.2), .ref tm, rfl, q _ h ((us.set s .non).set p v) _ ev (by simp) (own_set O2 1 rfl)⟩
    | lay p =>
      obtain ⟨tm, rfl, htm⟩ := hv
      refine ⟨.ref tm, rfl, tm, _, _, _, rfl, rfl, O1.tup htm, atI_nat (j := 0) rfl, rfl, _, rfl, ite2 (fun h => absurd (of_decide_eq_true h) (by decide)) (fun _ => ?_)⟩
      refine ⟨.ref tm, rfl, tm, _, _, _, rfl, rfl, O1.tup htm, atI_nat (j := 0) rfl, rfl, _, rfl, ite2 (fun h => absurd (of_decide_eq_true h) (by decide)) (fun _ => ?_)⟩
      refine ⟨.ref x, rfl, x, _, dx, _, h, rfl, O1.l0, t.k_RingWalk, t.n_RingWalk_held, rfl, .ref x, rfl, x, _, dx, _, .ref p1, rfl, O1.l0, t.k_RingWalk, t.n_RingWalk_own_things, rfl, .ref tm, rfl, tm, _, _, _, rfl, rfl, O1.tup htm, atI_nat (j := 1) rfl, p1, _, _, p, rfl, rfl, O1.l1, ixN_n hok, ?_⟩
      have O2 := own_set (o' := .lst (us.set p h)) O1 1 rfl
      refine ⟨.ref x, rfl, x, _, dx, _, rfl, O2.l0, t.k_RingWalk, t.n_RingWalk_held, (by show 4 < 1000; decide), .ref tm, rfl, q _ .non (us.set p h) _ ev (by simp) (own_set O2 0 rfl)⟩
end
end Fs

set_option maxHeartbeats 4000000
/-! What sorting by such keys gives. -/
namespace Fs
open PySem PySem.Spec PyProof.Rows L2
open PySem.W (dataLe dataLt dataLe_eq AllAlike Sortable alike)
theorem cast_lt (r s : List Nat) : (r.map fun n : Nat => (n : Int)) < (s.map fun n : Nat => (n : Int)) ↔ r < s := by
  induction r generalizing s with
  | nil =>
    cases s with
    | nil => exact ⟨fun h => absurd h (List.lt_irrefl _), fun h => absurd h (List.lt_irrefl _)⟩
    | cons y s => exact ⟨fun _ => nil_lt _ _, fun _ => List.nil_lt_cons ..⟩
  | cons x r ih =>
    cases s with
    | nil => exact ⟨fun h => absurd h (List.not_lt_nil _), fun h => absurd h (List.not_lt_nil _)⟩
    | cons y s =>
      rw [List.map_cons, List.map_cons, List.cons_lt_cons_iff, cons_lt, ih]
      constructor
      · rintro (h | ⟨h, h'⟩)
        · exact .inl (by omega)
        · exact .inr ⟨by omega, h'⟩
      · rintro (h | ⟨h, h'⟩)
        · exact .inl (by omega)
        · exact .inr ⟨by omega, h'⟩
abbrev intz (r : List Nat) : List Int := r.map fun n : Nat => (n : Int)
abbrev kRow (r : List Nat) : PyData := .tuple ((intz r).map .int)
theorem lt_row (r s : List Nat) : dataLt (kRow r) (kRow s) = decide (r < s) := by
  rw [PySem.W.dataLt_tuple]
  show PySem.W.rowLt _ _ = _
  rw [PySem.W.dataLt_ints]
  exact decide_eq_decide.mpr (cast_lt r s)
theorem alike_ints : ∀ xs ys : List Int, PySem.W.alikeAll (xs.map PyData.int) (ys.map PyData.int) = true
  | [], ys => by rw [List.map_nil]; cases ys <;> simp [PySem.W.alikeAll]
  | x :: xs, [] => by simp [PySem.W.alikeAll]
  | x :: xs, y :: ys => by
    rw [List.map_cons, List.map_cons, PySem.W.alikeAll, alike_ints xs ys]
    simp [PySem.W.alike]
theorem alike_row (r s : List Nat) : alike (kRow r) (kRow s) = true := by
  rw [PySem.W.alike]
  exact alike_ints _ _
theorem eqv_row (r s : List Nat) : PyData.eqv (kRow r) (kRow s) = decide (r = s) := by
  rw [PyData.eqv]
  rw [PySem.W.ked_eqvAll]
  refine decide_eq_decide.mpr ⟨fun h => ?_, fun h => by rw [h]⟩
  exact (List.map_inj_right (fun a b e => by omega)).mp h
abbrev kPair (r : List Nat) (n : Nat) : PyData := .tuple [kRow r, .int (n : Int)]
theorem lt_pair (r s : List Nat) (n m : Nat) : dataLt (kPair r n) (kPair s m) = true ↔ r < s ∨ (¬ s < r ∧ n < m) := by
  rw [PySem.W.dataLt_pair (alike_row r s) (by simp [PySem.W.alike]), eqv_row, lt_row, PySem.W.dataLt_int]
  have en : PyData.eqv (.int (n : Int)) (.int (m : Int)) = decide (n = m) := by
    simp only [PyData.eqv]
    by_cases e : n = m
    · subst e; simp
    · rw [decide_eq_false e]
      simp
      omega
  rw [en]
  by_cases h : r = s
  · subst h
    have : ¬ r < r := List.lt_irrefl _
    by_cases e : n = m
    · subst e
      simp [this]
    · simp [this, e]
  · simp only [h, decide_false, Bool.false_eq_true, if_false, decide_eq_true_eq]
    constructor
    · exact .inl
    · rintro (g | ⟨g, _⟩)
      · exact g
      · exact Decidable.byContradiction fun k => h (List.le_antisymm (List.not_lt.mp g) (List.not_lt.mp k))
theorem two_sub {p q : Nat} : ∀ l : List Nat, l.Nodup → [p, q].Sublist l → [q, p].Sublist l → False
  | [], _, h, _ => by cases h
  | x :: l, hn, h1, h2 => by
    obtain ⟨hx, hl⟩ := List.nodup_cons.mp hn
    cases h1 with
    | cons _ h1 =>
      cases h2 with
      | cons _ h2 => exact two_sub l hl h1 h2
      | cons_cons _ h2 => exact hx (h1.subset (by simp))
    | cons_cons _ h1 =>
      cases h2 with
      | cons _ h2 => exact hx (h2.subset (by simp))
      | cons_cons _ h2 => exact hx (h1.subset (by simp))
theorem dle_tot {β : Type} (k : β → PyData) : (∀ a b c, dataLe false k a b = true → dataLe false k b c = true → dataLe false k a c = true) ∧ ∀ a b, (dataLe false k a b || dataLe false k b a) = true := by
  have h : PySem.W.TotalLe (dataLe false k) := PySem.W.sortLe_total _ false _
  refine ⟨h.trans, fun a b => ?_⟩
  rw [Bool.or_eq_true]
  exact h.total a b
theorem sort_ord {L : List Nat} (hL : L.Pairwise (· < ·)) {k : Nat → PyData} {lt : Nat → Nat → Prop} (h : ∀ p ∈ L, ∀ q ∈ L, (dataLt (k p) (k q) = true ↔ lt p q)) : (L.mergeSort (dataLe false k)).Perm L ∧ (L.mergeSort (dataLe false k)).Pairwise (bef lt) := by
  obtain ⟨tr, tot⟩ := dle_tot k
  have hp := List.mergeSort_perm L (dataLe false k)
  have hn : (L.mergeSort (dataLe false k)).Nodup := hp.nodup_iff.mpr (hL.imp fun h => Nat.ne_of_lt h)
  have le : ∀ p ∈ L, ∀ q ∈ L, (dataLe false k p q = true ↔ ¬ lt q p) := fun p hp q hq => by
    rw [dataLe_eq]
    show (!dataLt (k q) (k p)) = true ↔ _
    rw [Bool.not_eq_true', ← h q hq p hp]
    simp
  refine ⟨hp, List.pairwise_iff_forall_sublist.mpr fun {p q} hs => ?_⟩
  have hpL : p ∈ L := hp.mem_iff.mp (hs.subset (by simp))
  have hqL : q ∈ L := hp.mem_iff.mp (hs.subset (by simp))
  have hle := List.pairwise_iff_forall_sublist.mp (List.pairwise_mergeSort tr tot L) hs
  have h1 : ¬ lt q p := (le p hpL q hqL).mp hle
  by_cases h2 : lt p q
  · exact .inl h2
  · refine .inr ⟨h1, ?_⟩
    rcases Nat.lt_trichotomy p q with h3 | h3 | h3
    · exact h3
    · subst h3
      have := List.pairwise_iff_forall_sublist.mp hn hs
      exact absurd rfl this
    · exfalso
      have hsub : [q, p].Sublist L := by
        have pw : ∀ l : List Nat, l.Pairwise (· < ·) → q ∈ l → p ∈ l → [q, p].Sublist l := by
          intro l
          induction l with
          | nil => intro _ h; cases h
          | cons x l ih =>
            intro hl hq hp
            obtain ⟨l1, l2⟩ := List.pairwise_cons.mp hl
            rcases List.mem_cons.mp hq with rfl | hq2
            · rcases List.mem_cons.mp hp with rfl | hp2
              · omega
              · exact (List.singleton_sublist.mpr hp2).cons_cons _
            · rcases List.mem_cons.mp hp with rfl | hp2
              · have := l1 q hq2; omega
              · exact (ih l2 hq2 hp2).cons _
        exact pw L hL hqL hpL
      exact two_sub _ hn hs (List.pair_sublist_mergeSort tr tot ((le q hqL p hpL).mpr h2) hsub)
theorem sort_rise {L : List Nat} (hL : L.Nodup) {rows : List (List Nat)} : (L.mergeSort (dataLe false fun n => kPair (row rows n) n)).Perm L ∧ (L.mergeSort (dataLe false fun n => kPair (row rows n) n)).Pairwise (bef (rlt rows)) := by
  obtain ⟨tr, tot⟩ := dle_tot fun n => kPair (row rows n) n
  have hp := List.mergeSort_perm L (dataLe false fun n => kPair (row rows n) n)
  have hn := hp.nodup_iff.mpr hL
  refine ⟨hp, List.pairwise_iff_forall_sublist.mpr fun {p q} hs => ?_⟩
  have hle := List.pairwise_iff_forall_sublist.mp (List.pairwise_mergeSort tr tot L) hs
  have hne : p ≠ q := List.pairwise_iff_forall_sublist.mp hn hs
  rw [dataLe_eq] at hle
  have hle : (!dataLt (kPair (row rows q) q) (kPair (row rows p) p)) = true := hle
  rw [Bool.not_eq_true'] at hle
  have h2 : ¬ (row rows q < row rows p ∨ (¬ row rows p < row rows q ∧ q < p)) := fun h => by
    rw [(lt_pair _ _ _ _).mpr h] at hle
    cases hle
  by_cases h : rlt rows p q
  · exact .inl h
  · refine .inr ⟨fun z => h2 (.inl z), ?_⟩
    have : ¬ q < p := fun z => h2 (.inr ⟨h, z⟩)
    omega
/-- the same over whole numbers -/
theorem sort_cast {L : List Nat} {k : Int → PyData} : (intz L).mergeSort (dataLe false k) = intz (L.mergeSort (dataLe false fun n => k (n : Int))) := by
  symm
  exact List.map_mergeSort fun a _ b _ => rfl
end Fs

set_option maxHeartbeats 4000000
/-! The order by the rows themselves; pouring. -/
namespace Fs
open PySem PySem.Spec PyProof.Rows L2
section
variable {P : Program} {w : World} {K : PySem.W.Frag} {mg : Str → Option Value} {base : Heap} {x qual g : Str} {st : Stmt} {f C : Addr} {N ps : List Str} {k : Nat} {sp : Sp} {T : TL}
theorem fn_okL {fd : FuncData} {p : Str × Option Str} (F : FnP K x qual st f fd) (hp : He.fAd K p = f) (S : FnScope N ps (defScope st)) (len : ∀ vs H Q E, sp vs H Q E → vs.length = ps.length)
    (b : ∀ (A : Around) (outer : List Env) (s : Shared) (H : Hp) (vs : List V) (Q : VK) (E : XK), Room k (A.deeper (envOfC qual (defScope st) s.heap.objs.size f (.ref (He.cT K p).1))) → sp vs H Q E →
      ∃ t, PSs (cxOf CX0 P w K mg base N qual (defScope st) f (.ref (He.cT K p).1) A outer s H E).nox (defBody st) t ∧ t { nx := fun _ H' => Q .non H', rt := Q } (start N vs) H) : FnOk P w K mg base CX0 (k + 1) f fd ps sp := by
  obtain ⟨oc, od, dV, kV, doc, pm, an, cdv, ct, osl, rfl, lk, hcd, _, _⟩ := F.ex
  obtain ⟨c, rfl⟩ := He.codeIn_ref hcd
  have e : He.codeOf K p = c := He.codeOf_eq (by rw [hp]; exact lk) rfl
  have e2 : (He.cT K p).1 = c := e
  rw [e2] at b
  exact fn_of lk hcd S len fun A outer s H vs Q E hr h => let ⟨t, a, q⟩ := b A outer s H vs Q E hr h; ⟨t, PSs.nox a, q⟩
theorem dep_ints : ∀ xs : List Int, PyData.depthAll (xs.map PyData.int) ≤ 1
  | [] => by simp [PyData.depthAll]
  | x :: xs => by
    have := dep_ints xs
    rw [List.map_cons, PyData.depthAll, PyData.depth]
    omega
theorem dep_row (r : List Nat) : (kRow r).depth ≤ 8 := by
  have := dep_ints (intz r)
  rw [PyData.depth]
  omega
def sp_told_order (K : PySem.W.Frag) (T : TL) : Sp := fun vs H Q _ => ∃ (G : Hp) (l : List (Addr × HO)) (a : Addr) (us : List V) (rows : List (List Nat)), vs = [.ref a] ∧ Own T G H l ∧ SqL K G a us ∧ Rows K G us rows ∧ (∃ w, ∀ r ∈ rows, r.length = w) ∧ rows.length ≤ 200 ∧
  ∀ G' H' p o, Same G G' → Own T G' H' ((p, .lst (o.map nv)) :: l) → IsOrd (rlt rows) rows.length o → Q (.ref p) H'
theorem sc_told_order : FnScope ["rows"] ["rows"] (defScope s_told_order) := ⟨rfl, rfl, rfl, by decide +kernel, rfl, by decide +kernel, by decide +kernel⟩
theorem cal_told_order (t : Ctx K mg base T) : Cal P w K mg base 1 "told_order" ["rows"] (sp_told_order K T) := by
  obtain ⟨fd, F⟩ := t.d_told_order
  refine ⟨_, fd, fn_okL (p := pT) F rfl sc_told_order (fun vs H Q E h => ?_) (fun A outer s H vs Q E hr h => ?_), t.g_told_order, F.kp, FunD.bindsN F (fun _ _ _ _ _ _ us hl => match us, hl with | [_], _ => rfl)⟩
  · obtain ⟨G, l, a, us, rows, rfl, _⟩ := h
    rfl
  · obtain ⟨G, l, a, us, rows, rfl, O, ha, he, ⟨wd, hw⟩, hn, q⟩ := h
    refine ⟨_, (pss_one (ps_ret (pe_sortLamR (T := T) (KF := kfTold K) (prg_1 (by rfl) t.range (pe_callB lenK (by rfl) t.len (by decide +kernel) (pa_cons (pv 0) pa_nil))) (by rfl) t.sorted rfl t.tabT rfl (by rw [t.hT]; exact List.mem_cons_self ..) (fun p hp e => ?_) (row_holds rfl rfl rfl rfl rfl rfl (fun _ _ _ _ _ _ => rfl) t.tuple ?_ (fun _ => rfl)) rfl (fun y hy e => ?_) hr.units))), ?_⟩
    · rw [t.hT] at hp
      rcases List.mem_cons.mp hp with rfl | hp
      · rfl
      · rw [List.mem_singleton.mp hp] at e
        exact absurd e.symm t.two
    · exact Nat.lt_of_le_of_lt (Nat.add_le_add_left (show 4 ≤ 5 by decide) _) hr.dp
    · have hy : y ∈ [(("place" : Str), NameKind.local), ("rows", .free), ("tuple", .globalImplicit)] := hy
      simp only [List.mem_cons, List.not_mem_nil, or_false] at hy
      rcases hy with rfl | rfl | rfl
      · cases e
      · rfl
      · cases e
    · have hl : us.length = rows.length := he.1
      refine ⟨.ref a, rfl, a, us, rfl, .inl (O.seq ha), _, rfl, rows.length, rfl, by rw [hl], G, l, (fun z => kRow (row rows z.toNat)), O, ?_, by rw [List.length_map, List.length_range]; omega, fun z _ => dep_row _, fun H2 st => ?_, fun G2 H2 p s2 O2 => ?_⟩
      · refine ⟨fun d hd d' hd' => ?_, ?_⟩
        · obtain ⟨z, _, rfl⟩ := List.mem_map.mp hd
          obtain ⟨z', _, rfl⟩ := List.mem_map.mp hd'
          exact alike_row _ _
        · have hm : ∀ z, z ∈ (List.range rows.length).map (fun k : Nat => (k : Int)) → (row rows z.toNat).length = wd := fun z hz => by
            obtain ⟨p, hp, rfl⟩ := List.mem_map.mp hz
            exact hw _ (getD_mem (List.mem_range.mp hp))
          cases wd with
          | zero =>
            refine .inr fun d hd => ?_
            obtain ⟨z, hz, rfl⟩ := List.mem_map.mp hd
            rw [List.length_eq_zero_iff.mp (hm z hz)]
            rfl
          | succ wd =>
            refine .inl (.inl fun d hd => ?_)
            obtain ⟨z, hz, rfl⟩ := List.mem_map.mp hd
            have := hm z hz
            generalize row rows z.toNat = r at this
            cases r with
            | nil => cases this
            | cons x r => exact ⟨_, _, rfl⟩
      · obtain ⟨G2, s2, O2⟩ := own_tab O (by rw [t.hT]; exact List.mem_cons_self ..) (fun p hp e => by
          rw [t.hT] at hp
          rcases List.mem_cons.mp hp with rfl | hp
          · rfl
          · rw [List.mem_singleton.mp hp] at e
            exact absurd e.symm t.two) st
        refine ⟨a, us, fun z => intz (row rows z.toNat), rfl, O2.seq (s2.seq ha), fun z hz => ?_, fun _ => rfl⟩
        obtain ⟨p, hp, rfl⟩ := List.mem_map.mp hz
        have hp := List.mem_range.mp hp
        obtain ⟨tt, et, ht, _⟩ := row_at he (s2.trans O2.sub) hp
        exact ⟨by omega, by omega, .ref tt, by rw [Int.toNat_natCast]; exact et, tt, rfl, by rw [← nvs]; exact ht⟩
      · have e := sort_cast (L := List.range rows.length) (k := fun z => kRow (row rows z.toNat))
        obtain ⟨h1, h2⟩ := sort_ord (L := List.range rows.length) List.pairwise_lt_range (k := fun n => kRow (row rows n)) (lt := rlt rows) (fun p _ q _ => by rw [lt_row]; exact decide_eq_true_iff)
        refine q G2 H2 p _ s2 ?_ ⟨h1, h2⟩
        rw [nvs]
        rw [e] at O2
        exact O2
/-! ### pouring -/
abbrev poO (K : PySem.W.Frag) (dx p1 p2 : Addr) (d : Nat) : HO := .ins (He.ga K "Pour") dx [("came", .ref p1), ("own_heaps", .ref p2), ("moved", nv d)]
def sp_Pour___init__ (K : PySem.W.Frag) (T : TL) : Sp := fun vs H Q _ => ∃ (G : Hp) (l : List (Addr × HO)) (x dx : Addr), vs = [.ref x] ∧ Own T G H ((x, .ins (He.ga K "Pour") dx []) :: l) ∧
  ∀ H' p1 p2, Own T G H' ((x, poO K dx p1 p2 0) :: (p1, .lst []) :: (p2, .lst []) :: l) → Q .non H'
theorem sc_Pour___init__ : FnScope ["self"] ["self"] (defScope s_Pour___init__) := ⟨rfl, rfl, rfl, by decide +kernel, rfl, by decide +kernel, by decide +kernel⟩
theorem kcal_Pour (t : Ctx K mg base T) : KCal P w K mg base 1 (He.ga K "Pour") "Pour" ["self"] (sp_Pour___init__ K T) := by
  refine kcal_of t.d_Pour___init__ t.g_Pour t.mk_Pour sc_Pour___init__ (fun _ _ _ _ _ _ us hl => match us, hl with | [_], _ => rfl) (fun vs H Q E h => ?_) (fun cdv A outer s H vs Q E hr h => ?_)
  · obtain ⟨G, l, x, dx, rfl, _⟩ := h
    rfl
  · obtain ⟨G, l, x, dx, rfl, O, q⟩ := h
    refine ⟨_, (pss_cons (ps_fld (pv 0) (pe_lst pa_nil) rfl)
      (pss_cons (ps_fld (pv 0) (pe_lst pa_nil) rfl)
      (pss_one (ps_fld (pv 0) pe_int rfl)))), ?_⟩
    refine ⟨Nat.zero_le _, fun p1 n1 => ?_⟩
    have O1 := own_new (o := .lst []) O n1
    refine ⟨.ref x, rfl, x, _, dx, _, rfl, O1.l1, t.k_Pour, t.n_Pour_came, (by show 0 < 1000; decide), ?_⟩
    have O2 := own_set (o' := .ins (He.ga K "Pour") dx [("came", .ref p1)]) O1 1 rfl
    refine ⟨Nat.zero_le _, fun p2 n2 => ?_⟩
    have O3 := own_new (o := .lst []) O2 n2
    refine ⟨.ref x, rfl, x, _, dx, _, rfl, O3.l2, t.k_Pour, t.n_Pour_own_heaps, (by show 1 < 1000; decide), ?_⟩
    have O4 := own_set (o' := .ins (He.ga K "Pour") dx [("came", .ref p1), ("own_heaps", .ref p2)]) O3 2 rfl
    refine ⟨.ref x, rfl, x, _, dx, _, rfl, O4.l2, t.k_Pour, t.n_Pour_moved, (by show 2 < 1000; decide), ?_⟩
    have O5 := own_set (o' := poO K dx p1 p2 0) O4 2 rfl
    exact q _ p1 p2 (O5.rot.perm ((List.Perm.swap _ _ _).cons _))
/-- what rises: some numbers, by the rows that came -/
def Rises (rows : List (List Nat)) (L o : List Nat) : Prop := o.Perm L ∧ (L.Nodup → o.Pairwise (bef (rlt rows)))
def sp_Pour_rising (K : PySem.W.Frag) (T : TL) : Sp := fun vs H Q _ => ∃ (G : Hp) (l : List (Addr × HO)) (x dx p1 p2 na : Addr) (d : Nat) (us : List V) (rows : List (List Nat)) (L : List Nat), vs = [.ref x, .ref na] ∧ Own T G H ((x, poO K dx p1 p2 d) :: (p1, .lst us) :: l) ∧ Rows K G us rows ∧ NL K H na L ∧ (∀ p ∈ L, p < rows.length) ∧ L.length ≤ 1000 ∧ rows.length ≤ 1000 ∧
  ∀ G' H' p o, Same G G' → Own T G' H' ((p, .lst (o.map nv)) :: (x, poO K dx p1 p2 d) :: (p1, .lst us) :: l) → Rises rows L o → Q (.ref p) H'
theorem sc_Pour_rising : FnScope ["self", "numbers"] ["self", "numbers"] (defScope s_Pour_rising) := ⟨rfl, rfl, rfl, by decide +kernel, rfl, by decide +kernel, by decide +kernel⟩
theorem dep_pair (r : List Nat) (n : Nat) : (kPair r n).depth ≤ 8 := by
  have := dep_ints (intz r)
  simp only [PyData.depth, PyData.depthAll]
  omega
theorem mcal_Pour_rising (t : Ctx K mg base T) : MCal P w K mg base 1 (He.ga K "Pour") "rising" ["self", "numbers"] (sp_Pour_rising K T) := by
  obtain ⟨fd, F⟩ := t.d_Pour_rising
  refine ⟨_, fd, fn_okL (p := pR) F rfl sc_Pour_rising (fun vs H Q E h => ?_) (fun A outer s H vs Q E hr h => ?_), t.k_Pour, t.m_Pour_rising, FunD.bindsN F (fun _ _ _ _ _ _ us hl => match us, hl with | [_, _], _ => rfl)⟩
  · obtain ⟨G, l, x, dx, p1, p2, na, d, us, rows, L, rfl, _⟩ := h
    rfl
  · obtain ⟨G, l, x, dx, p1, p2, na, d, us, rows, L, rfl, O, he, hna, hs, hn, hrl, q⟩ := h
    have hT2 : ((He.cT K pR).2, ("Pour.rising.<locals>.<lambda>" : Str)) ∈ T := by rw [t.hT]; exact List.mem_cons_of_mem _ (List.mem_cons_self ..)
    have hu2 : ∀ p ∈ T, p.1 = (He.cT K pR).2 → p.2 = ("Pour.rising.<locals>.<lambda>" : Str) := fun p hp e => by
      rw [t.hT] at hp
      rcases List.mem_cons.mp hp with rfl | hp
      · exact absurd e t.two
      · rw [List.mem_singleton.mp hp]
    refine ⟨_, (pss_one (ps_ret (pe_sortLamL (T := T) (KF := kfRise K) (pv 1) (by rfl) t.sorted t.tabR rfl hT2 hu2 (pair_holds rfl rfl rfl rfl rfl rfl (fun _ _ _ _ _ _ => rfl) (Nat.lt_of_le_of_lt (Nat.add_le_add_left (show 4 ≤ 5 by decide) _) hr.dp) (fun _ => rfl) (fun _ => rfl) (fun _ => rfl)) rfl (fun y hy e => ?_) hr.units))), ?_⟩
    · have hy : y ∈ [(("number" : Str), NameKind.local), ("self", .free)] := hy
      simp only [List.mem_cons, List.not_mem_nil, or_false] at hy
      rcases hy with rfl | rfl
      · cases e
      · rfl
    · refine ⟨.ref na, rfl, na, intz L, rfl, by rw [← nvs]; exact hna, G, _, (fun z => .tuple [kRow (row rows z.toNat), .int z]), O, ?_, by rw [List.length_map]; omega, fun z hz => ?_, fun H2 st => ?_, fun G2 H2 p s2 O2 => ?_⟩
      · refine ⟨fun d hd d' hd' => ?_, .inl (.inl fun d hd => ?_)⟩
        · obtain ⟨z, _, rfl⟩ := List.mem_map.mp hd
          obtain ⟨z', _, rfl⟩ := List.mem_map.mp hd'
          simp only [PySem.W.alike, PySem.W.alikeAll, alike_ints, Bool.and_self]
        · obtain ⟨z, _, rfl⟩ := List.mem_map.mp hd
          exact ⟨_, _, rfl⟩
      · obtain ⟨n, _, rfl⟩ := List.mem_map.mp hz
        exact dep_pair _ n
      · obtain ⟨G2, s2, O2⟩ := own_tab O hT2 hu2 st
        refine ⟨x, _, dx, p1, _, us, fun z => intz (row rows z.toNat), rfl, O2.l0, t.k_Pour, t.n_Pour_came, rfl, .inl (.inl O2.l1), fun z hz => ?_, fun _ => rfl⟩
        obtain ⟨n, hn2, rfl⟩ := List.mem_map.mp hz
        have hp := hs n hn2
        obtain ⟨tt, et, ht, _⟩ := row_at he (s2.trans O2.sub) hp
        exact ⟨by omega, by omega, .ref tt, by rw [Int.toNat_natCast]; exact et, tt, rfl, by rw [← nvs]; exact ht⟩
      · have e := sort_cast (L := L) (k := fun z => .tuple [kRow (row rows z.toNat), .int z])
        refine q G2 H2 p _ s2 ?_ ⟨List.mergeSort_perm _ _, fun hnd => (sort_rise (L := L) hnd (rows := rows)).2⟩
        rw [nvs]
        rw [e] at O2
        exact O2
end
end Fs

set_option maxHeartbeats 4000000
/-! Pouring heap by heap. -/
namespace Fs
open PySem PySem.Spec PyProof.Rows L2
/-- the heaps' lengths, the last one first, when m are poured -/
def hp : List Nat → Nat → List Nat
  | [], m => [m]
  | a :: r, m => if a ≤ m then hp r (a + m) else m :: a :: r
theorem hp_sum : ∀ (L : List Nat) (m : Nat), (hp L m).sum = L.sum + m
  | [], m => by simp [hp]
  | a :: r, m => by
    unfold hp
    split
    · rw [hp_sum r (a + m), List.sum_cons]; omega
    · simp; omega
def HeapsOk (n : Nat) (hs : List (List Nat)) : Prop := (∀ h ∈ hs, ∀ p ∈ h, p < n) ∧ (hs.map List.length).sum = n ∧ ∀ h ∈ hs, 1 ≤ h.length
theorem pos_len : ∀ L : List (List Nat), (∀ B ∈ L, 1 ≤ B.length) → L.length ≤ (L.map List.length).sum
  | [], _ => Nat.zero_le _
  | B :: L, h => by
    have := pos_len L fun C hC => h C (List.mem_cons_of_mem _ hC)
    have := h B (List.mem_cons_self ..)
    rw [List.length_cons, List.map_cons, List.sum_cons]
    omega
section
variable {P : Program} {w : World} {K : PySem.W.Frag} {mg : Str → Option Value} {base : Heap} {T : TL}
def sp_Pour_pour (K : PySem.W.Frag) (T : TL) : Sp := fun vs H Q _ => ∃ (G : Hp) (l : List (Addr × HO)) (x dx p1 p2 ra : Addr) (d : Nat) (us hv ws : List V) (rows new hs : List (List Nat)), vs = [.ref x, .ref ra] ∧ Own T G H ((x, poO K dx p1 p2 d) :: (p1, .lst us) :: (p2, .lst hv) :: l) ∧ Rows K G us rows ∧ Each (LV G) hv hs ∧ HeapsOk rows.length hs ∧
  SqL K G ra ws ∧ Rows K G ws new ∧ 1 ≤ new.length ∧ rows.length + new.length ≤ 200 ∧
  ∀ G' H' d' hv' hs' z, Same G G' → Own T G' H' ((x, poO K dx p1 p2 d') :: (p1, .lst (us ++ ws)) :: (p2, .lst hv') :: l) → Each (LV G') hv' hs' → HeapsOk (rows.length + new.length) hs' → hs'.map List.length = (hp (hs.map List.length).reverse new.length).reverse → Q z H'
theorem sc_Pour_pour : FnScope ["self", "rows", "first", "row", "heap", "told"] ["self", "rows"] (defScope s_Pour_pour) := ⟨rfl, rfl, rfl, by decide +kernel, rfl, by decide +kernel, by decide +kernel⟩
theorem mcal_Pour_pour (t : Ctx K mg base T) : MCal P w K mg base 2 (He.ga K "Pour") "pour" ["self", "rows"] (sp_Pour_pour K T) := by
  refine mcal_of t.d_Pour_pour t.k_Pour t.m_Pour_pour sc_Pour_pour (fun _ _ _ _ _ _ us hl => match us, hl with | [_, _], _ => rfl) (fun vs H Q E h => ?_) (fun cdv A outer s H vs Q E hr h => ?_)
  · obtain ⟨G, l, x, dx, p1, p2, ra, d, us, hv, ws, rows, new, hs, rfl, _⟩ := h
    rfl
  · obtain ⟨G, l, x, dx, p1, p2, ra, d, us, hv, ws, rows, new, hs, rfl, O, he, hH, ⟨hk1,hk2,hk3⟩, hra, hw, hn1, hn, q⟩ := h
    refine ⟨_, (pss_cons (ps_set (i := 2) sc_Pour_pour.nd rfl (.inl rfl) (pe_callB lenK (by rfl) t.len (by decide +kernel) (pa_cons (fldK (pv 0) (by rfl)) pa_nil)))
      (pss_cons (ps_expr (bmK PySem.F.plainAttrs_list PySem.F.slot_list_extend PySem.F.type_list_extend mt_extend (fldK (pv 0) (by rfl)) (pa_cons (pe_lc (own := [("row", 3)]) (g := gName 3) (tt := tYes) (by rfl) sc_Pour_pour.nd (piL (pv 1)) (blkOk_by (own := [("row", 3)]) (N := ["self", "rows", "first", "row", "heap", "told"]) (sc := defScope s_Pour_pour) (by decide +kernel)) (fun _ _ _ _ _ => (pg_name (i := 3) sc_Pour_pour.nd rfl (.inl rfl))) (fun _ _ _ _ _ => pts_nil) (fun _ _ _ _ _ => (pe_callTy tupT (by rfl) t.tuple (by decide +kernel) (pa_cons (pv 3) pa_nil)))) pa_nil)))
      (pss_cons (ps_set (i := 4) sc_Pour_pour.nd rfl (.inl rfl) (pe_mcal (pv 0) (mcal_Pour_rising t) hr (pa_cons (pe_listRg rfl (by rfl) t.list (prg_2 (by rfl) t.range (pv 2) (pe_callB lenK (by rfl) t.len (by decide +kernel) (pa_cons (fldK (pv 0) (by rfl)) pa_nil)))) pa_nil)))
      (pss_cons (ps_set (i := 5) sc_Pour_pour.nd rfl (.inl rfl) pe_int)
      (pss_cons (ps_while PassesOwn.never (PW.pt (pw_and (pt_cmpR op_gt (pe_callB lenK (by rfl) t.len (by decide +kernel) (pa_cons (fldK (pv 0) (by rfl)) pa_nil)) pe_int (nomark _)) (pw_and1 (pt_cmpR op_le (pe_callB lenK (by rfl) t.len (by decide +kernel) (pa_cons (pe_ix ixL (fldK (pv 0) (by rfl)) (pe_un un_neg pe_int) (fun _ _ => rfl)) pa_nil)) (pe_callB lenK (by rfl) t.len (by decide +kernel) (pa_cons (pv 4) pa_nil)) (nomark _)))))
        (pss_cons (ps_set (i := 4) sc_Pour_pour.nd rfl (.inl rfl) (pe_mcal (pv 0) (mcal_Pour_rising t) hr (pa_cons (pe_op op_cat (bm0K PySem.F.plainAttrs_list PySem.F.slot_list_pop PySem.F.type_list_pop mt_pop (fldK (pv 0) (by rfl))) (pv 4)) pa_nil)))
        (pss_one (ps_aug (i := 5) sc_Pour_pour.nd rfl (.inl rfl) (pe_callB lenK (by rfl) t.len (by decide +kernel) (pa_cons (pv 4) pa_nil)) ip_add))))
      (pss_cons (ps_expr (bmK PySem.F.plainAttrs_list PySem.F.slot_list_append PySem.F.type_list_append mt_append (fldK (pv 0) (by rfl)) (pa_cons (pv 4) pa_nil)))
      (pss_cons (ps_fldaug (pv 0) (pv 5) in_add)
      (pss_one (ps_ret (pv 5)))))))))), ?_⟩
    have hul : us.length = rows.length := he.1
    have hwl : ws.length = new.length := hw.1
    refine ⟨.ref x, rfl, x, _, dx, _, .ref p1, rfl, O.l0, t.k_Pour, t.n_Pour_came, rfl, p1, us, rfl, .inl (.inl (.inl O.l1)), ?_⟩
    refine ⟨.ref x, rfl, x, _, dx, _, .ref p1, rfl, O.l0, t.k_Pour, t.n_Pour_came, rfl, .inl ⟨rfl, _, .inl (.inl O.l1)⟩, .ref ra, rfl, ra, rfl, ⟨_, O.seq hra⟩, fun D nD => lc_valS [some (.ref x), some (.ref ra), some (.int us.length), none, none, none] rfl (ys := ws) walk_list O nD rfl (by omega) id (fun H' s => s.seq hra) (fun i u y H1 H2 acc Qc hi ey O2 hy hQ => ?_) (fun H1 O1 => ?_)⟩
    · obtain ⟨rfl, hy⟩ := hy
      obtain rfl : y = u := Option.some.inj (ey.symm.trans hy)
      obtain ⟨r, _, tt, rfl, ht⟩ := hw.at_v ey
      exact ⟨rfl, .ref tt, rfl, tt, _, rfl, O2.tup ht, hQ _ O2⟩
    rw [List.map_id] at O1
    refine ⟨p1, D, us, ws, rfl, rfl, O1.l2, O1.l0, sz (by omega), ?_⟩
    have O2 := (own_set (o' := .lst (us ++ ws)) O1 2 rfl).drop
    have hR : Rows K G (us ++ ws) (rows ++ new) := he.app hw
    have hrl : (rows ++ new).length = rows.length + new.length := List.length_append
    refine ⟨.ref x, rfl, x, dx, _, rfl, O2.l0, rfl, _, rfl, .ref x, rfl, x, _, dx, _, .ref p1, rfl, O2.l0, t.k_Pour, t.n_Pour_came, rfl, p1, _, rfl, .inl (.inl (.inl O2.l1)), _, _, rfl, rfl, ⟨by omega, by omega, by omega, by rw [List.length_append]; omega, by rw [List.length_append]; omega⟩, fun pa na => ?_⟩
    have erg : rgV (us.length : Int) (((us ++ ws).length : Nat) : Int) = ((List.range new.length).map fun i => rows.length + i).map nv := by
      unfold rgV
      rw [List.map_map, List.length_append, show ((((us.length + ws.length : Nat) : Int) - (us.length : Int)).toNat) = new.length by omega]
      apply List.map_congr_left
      intro i _
      show V.int ((us.length : Int) + (i : Int)) = V.int (((rows.length + i : Nat)) : Int)
      rw [hul]
      rfl
    rw [erg]
    have O3 := own_new (o := .lst (((List.range new.length).map fun i => rows.length + i).map nv)) O2 na
    refine ⟨G, _, x, dx, p1, p2, pa, d, us ++ ws, rows ++ new, _, rfl, O3.drop, hR, .inl (.inl O3.l0), fun p hp => ?_, by rw [List.length_map, List.length_range]; omega, by rw [hrl]; omega, fun G4 H4 ha o s4 O4 hr => ?_⟩
    · obtain ⟨i, hi, rfl⟩ := List.mem_map.mp hp
      have := List.mem_range.mp hi
      rw [hrl]
      omega
    have s5 := O4.gup
    have O5 := O4.frz
    have ho : GL (upd G4 ha (.lst (o.map nv))) ha o := upd_same
    generalize upd G4 ha (.lst (o.map nv)) = G5 at s5 O5 ho
    have hol : o.length = new.length := by rw [hr.1.length_eq, List.length_map, List.length_range]
    have hos : ∀ p ∈ o, p < rows.length + new.length := fun p hp => by
      obtain ⟨i, hi, rfl⟩ := List.mem_map.mp (hr.1.mem_iff.mp hp)
      have := List.mem_range.mp hi
      omega
    have W0 : Each (LV G5) hv hs := hH.mono fun _ _ => LV.up (s4.trans s5)
    refine ⟨fun m σ H' => ∃ G' ha o told hv hs', σ = [some (.ref x), some (.ref ra), some (.int us.length), none, some (.ref ha), some (nv told)] ∧ Same G5 G' ∧ Own T G' H' ((x, poO K dx p1 p2 d) :: (p1, .lst (us ++ ws)) :: (p2, .lst hv) :: l) ∧ GL G' ha o ∧ Each (LV G') hv hs' ∧ m = hs'.length ∧ (∀ p ∈ o, p < rows.length + new.length) ∧ 1 ≤ o.length ∧ (∀ h ∈ hs', ∀ p ∈ h, p < rows.length) ∧ (∀ h ∈ hs', 1 ≤ h.length) ∧ (hs'.map List.length).sum + o.length = rows.length + new.length ∧ hp (hs'.map List.length).reverse o.length = hp (hs.map List.length).reverse new.length, ⟨_, G5, ha, o, 0, hv, hs, rfl, Same.refl _, O5, ho, W0, rfl, hos, by omega, hk1, hk3, by omega, by rw [hol]⟩, fun m σ H' ⟨G', ha, o, told, hv, hs', e, s, O6, ho, hH, hm, hos, ho1, hk1, hk3, hsum, hend⟩ => ?_⟩
    subst e
    have hvl := hH.1
    have hhl := pos_len hs' hk3
    have sG := (s4.trans s5).trans s
    have fin : hp (hs'.map List.length).reverse o.length = o.length :: (hs'.map List.length).reverse → tSeq (tDrop (tBM K "list" rAppend (tFld K (tVar 0) "own_heaps") (tCons (tVar 4) tNil))) (tSeq (sFldAug K (tVar 0) (tVar 5) rAdd "moved") (tRet (tVar 5))) { nx := fun _ H' => Q .non H', rt := Q } [some (.ref x), some (.ref ra), some (.int us.length), none, some (.ref ha), some (nv told)] H' := by
      intro hf
      refine ⟨.ref x, rfl, x, _, dx, _, .ref p2, rfl, O6.l0, t.k_Pour, t.n_Pour_own_heaps, rfl, .inl ⟨rfl, _, .inl (.inl O6.l2)⟩, .ref ha, rfl, p2, hv, _, rfl, rfl, O6.l2, sz' (by omega), ?_⟩
      have O7 := own_set (o' := .lst (hv ++ [V.ref ha])) O6 2 rfl
      refine ⟨.ref x, rfl, x, _, dx, _, nv d, rfl, O7.l0, t.k_Pour, t.n_Pour_moved, rfl, nv told, rfl, _, _, rfl, rfl, dx, _, O7.l0, (by show 3 < 1000; decide), nv told, rfl, ?_⟩
      have O8 := own_set (o' := poO K dx p1 p2 (d + told)) O7 0 rfl
      refine q G' _ (d + told) (hv ++ [V.ref ha]) (hs' ++ [o]) _ sG O8 (hH.snoc ⟨ha, rfl, ho⟩) ⟨fun h hh p hp => ?_, ?_, fun h hh => ?_⟩ ?_
      · rcases List.mem_append.mp hh with hh | hh
        · have := hk1 h hh p hp; omega
        · rw [List.mem_singleton.mp hh] at hp
          exact hos p hp
      · rw [List.map_append, List.sum_append]
        simpa using hsum
      · rcases List.mem_append.mp hh with hh | hh
        · exact hk3 h hh
        · rw [List.mem_singleton.mp hh]
          exact ho1
      · rw [← hend, hf]
        simp
    refine ⟨.ref x, rfl, x, _, dx, _, .ref p2, rfl, O6.l0, t.k_Pour, t.n_Pour_own_heaps, rfl, p2, hv, rfl, .inl (.inl (.inl O6.l2)), _, _, rfl, rfl, _, rfl, ite2 (fun h => ?_) (fun h => ?_)⟩
    · have h0 : 0 < hv.length := by have := of_decide_eq_true h; omega
      obtain ⟨hs2, a, rfl⟩ : ∃ hs2 a, hs' = hs2 ++ [a] := by
        have hne : hs' ≠ [] := fun e => by rw [e, List.length_nil] at hvl; omega
        exact ⟨hs'.dropLast, hs'.getLast hne, (List.dropLast_concat_getLast hne).symm⟩
      obtain ⟨hv2, u, rfl⟩ : ∃ hv2 u, hv = hv2 ++ [u] := by
        have hne : hv ≠ [] := fun e => by rw [e, List.length_nil] at h0; omega
        exact ⟨hv.dropLast, hv.getLast hne, (List.dropLast_concat_getLast hne).symm⟩
      have hl2 : hv2.length = hs2.length := by simpa using hvl
      have hH2 : Each (LV G') hv2 hs2 := by
        have := hH.dropLast
        rwa [List.dropLast_concat, List.dropLast_concat] at this
      obtain ⟨pa, rfl, hpa⟩ : LV G' u a := hH.2 hv2.length u a (by simp) (by rw [hl2]; simp)
      have hsum2 : (hs2.map List.length).sum + a.length + o.length = rows.length + new.length := by
        rw [List.map_append, List.sum_append] at hsum
        simpa using hsum
      have hrev : ((hs2 ++ [a]).map List.length).reverse = a.length :: (hs2.map List.length).reverse := by simp
      rw [hrev] at hend fin
      refine ⟨.ref x, rfl, x, _, dx, _, .ref p2, rfl, O6.l0, t.k_Pour, t.n_Pour_own_heaps, rfl, _, rfl, p2, _, _, _, rfl, rfl, .inl (.inl O6.l2), atI_last _ _, pa, _, rfl, .inl (O6.seq hpa.nl), .ref ha, rfl, ha, _, rfl, .inl (O6.seq ho.nl), _, _, rfl, rfl, _, rfl, ?_⟩
      rw [List.length_map, List.length_map]
      refine ite2 (fun h2 => ?_) (fun h2 => ?_)
      · have hle : a.length ≤ o.length := by have := of_decide_eq_true h2; omega
        refine ⟨_, fun _ _ h => h, .ref x, rfl, x, dx, _, rfl, O6.l0, rfl, ?_⟩
        refine ⟨.ref x, rfl, x, _, dx, _, .ref p2, rfl, O6.l0, t.k_Pour, t.n_Pour_own_heaps, rfl, .inl ⟨rfl, _, .inl (.inl O6.l2)⟩, p2, _, _, rfl, rfl, O6.l2, by simp; rfl, ?_⟩
        rw [List.dropLast_concat]
        have O7 := own_set (o' := .lst hv2) O6 2 rfl
        refine ⟨.ref ha, rfl, pa, ha, _, _, rfl, rfl, O7.sub _ _ hpa, O7.sub _ _ ho, sz (by rw [List.length_map, List.length_map]; omega), fun pc nc => ?_⟩
        rw [← List.map_append]
        have O8 := own_new (o := .lst ((a ++ o).map nv)) O7 nc
        refine ⟨G', _, x, dx, p1, p2, pc, d, us ++ ws, rows ++ new, a ++ o, rfl, O8.drop, hR.up sG, .inl (.inl O8.l0), fun p hp => ?_, by rw [List.length_append]; omega, by rw [hrl]; omega, fun G9 H9 pd o9 s9 O9 hr9 => ?_⟩
        · rw [hrl]
          rcases List.mem_append.mp hp with hp | hp
          · have := hk1 a (by simp) p hp; omega
          · exact hos p hp
        have hl9 : o9.length = a.length + o.length := by rw [hr9.1.length_eq, List.length_append]
        have s10 := O9.gup
        refine ⟨.int told, rfl, .ref pd, rfl, pd, _, rfl, .inl (.inl (.inl O9.l0)), _, _, rfl, rfl, hs2.length, by rw [hm]; simp, _, pd, o9, told + o9.length, hv2, hs2, ?_, (s.trans s9).trans s10, O9.frz, upd_same, hH2.mono fun _ _ => LV.up (s9.trans s10), rfl, fun p hp => ?_, by omega, fun h hh => hk1 h (by simp [hh]), fun h hh => hk3 h (by simp [hh]), by omega, ?_⟩
        · rw [List.length_map]
          rfl
        · rcases List.mem_append.mp (hr9.1.mem_iff.mp hp) with hp | hp
          · have := hk1 a (by simp) p hp; omega
          · exact hos p hp
        · rw [← hend, hl9]
          conv => rhs; unfold hp
          rw [if_pos hle]
      · refine fin ?_
        have hgt : ¬ a.length ≤ o.length := fun z => h2 (decide_eq_true (by omega))
        conv => lhs; unfold hp
        rw [if_neg hgt]
    · refine iteF (fin ?_)
      have hv0 : hv.length = 0 := by
        by_cases h0 : 0 < hv.length
        · exact absurd (decide_eq_true (by omega : (0 : Int) < (hv.length : Int))) h
        · omega
      have : hs' = [] := List.length_eq_zero_iff.mp (by omega)
      subst this
      rfl
def sp_Pour_heaps (K : PySem.W.Frag) (T : TL) : Sp := fun vs H Q _ => ∃ (G : Hp) (l : List (Addr × HO)) (x dx p1 p2 : Addr) (d : Nat) (us hv : List V) (hs : List (List Nat)), vs = [.ref x] ∧ Own T G H ((x, poO K dx p1 p2 d) :: (p1, .lst us) :: (p2, .lst hv) :: l) ∧ Each (LV G) hv hs ∧ hs.length ≤ 1000 ∧
  ∀ H' p, Own T G H' ((p, .lst ((hs.map List.length).map nv)) :: (x, poO K dx p1 p2 d) :: (p1, .lst us) :: (p2, .lst hv) :: l) → Q (.ref p) H'
theorem sc_Pour_heaps : FnScope ["self", "heap"] ["self"] (defScope s_Pour_heaps) := ⟨rfl, rfl, rfl, by decide +kernel, rfl, by decide +kernel, by decide +kernel⟩
theorem mcal_Pour_heaps (t : Ctx K mg base T) : MCal P w K mg base 1 (He.ga K "Pour") "heaps" ["self"] (sp_Pour_heaps K T) := by
  refine mcal_of t.d_Pour_heaps t.k_Pour t.m_Pour_heaps sc_Pour_heaps (fun _ _ _ _ _ _ us hl => match us, hl with | [_], _ => rfl) (fun vs H Q E h => ?_) (fun cdv A outer s H vs Q E hr h => ?_)
  · obtain ⟨G, l, x, dx, p1, p2, d, us, hv, hs, rfl, _⟩ := h
    rfl
  · obtain ⟨G, l, x, dx, p1, p2, d, us, hv, hs, rfl, O, hH, hn, q⟩ := h
    refine ⟨_, (pss_one (ps_ret (pe_lc (own := [("heap", 1)]) (g := gName 1) (tt := tYes) (by rfl) sc_Pour_heaps.nd (piL (fldK (pv 0) (by rfl))) (blkOk_by (own := [("heap", 1)]) (N := ["self", "heap"]) (sc := defScope s_Pour_heaps) (by decide +kernel)) (fun _ _ _ _ _ => (pg_name (i := 1) sc_Pour_heaps.nd rfl (.inl rfl))) (fun _ _ _ _ _ => pts_nil) (fun _ _ _ _ _ => (pe_callB lenK (by rfl) t.len (by decide +kernel) (pa_cons (pv 1) pa_nil)))))), ?_⟩
    have hl := hH.1
    refine ⟨.ref x, rfl, x, _, dx, _, .ref p2, rfl, O.l0, t.k_Pour, t.n_Pour_own_heaps, rfl, p2, rfl, ⟨_, .inl (.inl O.l2)⟩, fun D nD => ?_⟩
    refine lc_it (walk_list (xs := hv)) (fun i H' => Own T G H' ((D, .lst (((hs.take i).map List.length).map nv)) :: (x, poO K dx p1 p2 d) :: (p1, .lst us) :: (p2, .lst hv) :: l)) (own_new O nD) (fun i H' _ O1 => .inl (.inl O1.l3)) (fun i v H1 H2 hi O1 ⟨e, hy⟩ => ?_) (fun H1 O1 => q _ _ (by rw [hl, List.take_length] at O1; exact O1))
    subst e
    obtain ⟨h, eh, pa, rfl, hpa⟩ := hH.at_v hy
    refine ⟨rfl, .ref pa, rfl, pa, _, rfl, .inl (O1.seq hpa.nl), _, O1.l0, szm (n := 1000) (by rw [List.length_map, List.length_take]; omega) (by omega), ?_⟩
    rw [List.length_map, map_snoc, take_snoc eh, show (hs.take i).map List.length ++ [h.length] = (hs.take i ++ [h]).map List.length by rw [List.map_append]; rfl]
    exact own_set O1 0 rfl
def sp_Pour_order (K : PySem.W.Frag) (T : TL) : Sp := fun vs H Q _ => ∃ (G : Hp) (l : List (Addr × HO)) (x dx p1 p2 : Addr) (d : Nat) (us : List V) (rows : List (List Nat)), vs = [.ref x] ∧ Own T G H ((x, poO K dx p1 p2 d) :: (p1, .lst us) :: l) ∧ Rows K G us rows ∧ rows.length ≤ 200 ∧
  ∀ G' H' p o, Same G G' → Own T G' H' ((p, .lst (o.map nv)) :: (x, poO K dx p1 p2 d) :: (p1, .lst us) :: l) → IsOrd (rlt rows) rows.length o → Q (.ref p) H'
theorem sc_Pour_order : FnScope ["self"] ["self"] (defScope s_Pour_order) := ⟨rfl, rfl, rfl, by decide +kernel, rfl, by decide +kernel, by decide +kernel⟩
theorem mcal_Pour_order (t : Ctx K mg base T) : MCal P w K mg base 2 (He.ga K "Pour") "order" ["self"] (sp_Pour_order K T) := by
  refine mcal_of t.d_Pour_order t.k_Pour t.m_Pour_order sc_Pour_order (fun _ _ _ _ _ _ us hl => match us, hl with | [_], _ => rfl) (fun vs H Q E h => ?_) (fun cdv A outer s H vs Q E hr h => ?_)
  · obtain ⟨G, l, x, dx, p1, p2, d, us, rows, rfl, _⟩ := h
    rfl
  · obtain ⟨G, l, x, dx, p1, p2, d, us, rows, rfl, O, he, hn, q⟩ := h
    refine ⟨_, (pss_one (ps_ret (pe_mcal (pv 0) (mcal_Pour_rising t) hr (pa_cons (pe_listRg rfl (by rfl) t.list (prg_1 (by rfl) t.range (pe_callB lenK (by rfl) t.len (by decide +kernel) (pa_cons (fldK (pv 0) (by rfl)) pa_nil)))) pa_nil)))), ?_⟩
    have hl := he.1
    refine ⟨.ref x, rfl, x, dx, _, rfl, O.l0, rfl, .ref x, rfl, x, _, dx, _, .ref p1, rfl, O.l0, t.k_Pour, t.n_Pour_came, rfl, p1, us, rfl, .inl (.inl (.inl O.l1)), _, rfl, rg_ok (by omega), fun pa na => ?_⟩
    rw [rg_nv, hl]
    have O1 := own_new (o := .lst ((List.range rows.length).map nv)) O na
    refine ⟨G, l, x, dx, p1, p2, pa, d, us, rows, List.range rows.length, rfl, O1.drop, he, .inl (.inl O1.l0), fun p hp => List.mem_range.mp hp, by rw [List.length_range]; omega, by omega, fun G2 H2 p o s2 O2 hr => q G2 H2 p o s2 O2 ⟨hr.1, hr.2 List.nodup_range⟩⟩
end
end Fs

set_option maxHeartbeats 4000000
/-! Words: numbers and keys as they are written. -/
namespace Fs
open PySem PySem.Spec PyProof.Rows L2
abbrev cps (z : Str) : List Nat := z.cps.toList
abbrev numL (n : Nat) : List Nat := _root_.TL.numL n
abbrev iw (n : Int) : Str := Str.ofString (toString n)
theorem iw_nat (n : Nat) : cps (iw (n : Int)) = numL n := _root_.TL.tl_num n
theorem iw_neg (n : Nat) : cps (iw (Int.negSucc n)) = 45 :: numL (n + 1) := by
  have e1 := _root_.TL.tl_num (n + 1)
  rw [_root_.TL.tl_ofString] at e1
  show _root_.TL.tl (Str.ofString (toString (Int.negSucc n))) = _
  rw [_root_.TL.tl_ofString]
  have e2 : toString (Int.negSucc n) = "-" ++ toString (((n + 1 : Nat)) : Int) := rfl
  rw [e2, String.toList_append, List.map_append, e1]
  rfl
theorem numL0 : numL 0 = [48] := _root_.TL.numL_lt (by omega)
theorem numL_head : ∀ n, 0 < n → ∃ c r, numL n = c :: r ∧ c ≠ 48 := by
  intro n
  induction n using Nat.strongRecOn with
  | _ n ih =>
    intro h
    by_cases h10 : n < 10
    · exact ⟨48 + n, [], _root_.TL.numL_lt h10, by omega⟩
    · obtain ⟨c, r, e, hc⟩ := ih (n / 10) (by omega) (by omega)
      refine ⟨c, r ++ [48 + n % 10], ?_, hc⟩
      show _root_.TL.numL n = _
      rw [_root_.TL.numL_step (by omega)]
      show numL (n / 10) ++ _ = _
      rw [e]
      rfl
theorem str_len (z : Str) : z.length = (cps z).length := by simp [cps, Str.length]
theorem str_ext {x y : Str} (h : cps x = cps y) : x = y := _root_.TL.ext_tl h
theorem iw_int {n : Int} (h : n.natAbs < 10 ^ 18) : PySem.intText? (iw n) = some n ∧ (iw n).length ≤ 19 := by
  cases n with
  | ofNat n =>
    have l : (numL n).length ≤ 18 := _root_.TL.numL_len (by omega) h
    refine ⟨_root_.TL.int_num (by show (numL n).length ≤ _; omega), ?_⟩
    rw [str_len]
    show (cps (iw (n : Int))).length ≤ 19
    rw [iw_nat]
    omega
  | negSucc n =>
    have l : (numL (n + 1)).length ≤ 18 := _root_.TL.numL_len (by omega) h
    have e := iw_neg n
    have hl : (iw (Int.negSucc n)).length ≤ 19 := by rw [str_len, e, List.length_cons]; omega
    refine ⟨?_, hl⟩
    rw [intText_neg e (_root_.TL.numL_digits _) (_root_.TL.numL_ne _) (by omega)]
    show some (-((NumText.digitsVal (_root_.TL.numL (n + 1)) : Nat) : Int)) = _
    rw [_root_.TL.numL_val]
    rfl
/-- the signs of a number -/
theorem iw_signs {n : Int} {c : Nat} (h : c ∈ cps (iw n)) : c = 45 ∨ (48 ≤ c ∧ c ≤ 57) := by
  cases n with
  | ofNat n =>
    have h : c ∈ cps (iw (n : Int)) := h
    rw [iw_nat] at h
    exact .inr (_root_.TL.numL_digits n c h)
  | negSucc n =>
    rw [iw_neg] at h
    rcases List.mem_cons.mp h with h | h
    · exact .inl h
    · exact .inr (_root_.TL.numL_digits _ c h)
theorem iw_inj {n m : Int} (h : iw n = iw m) : n = m := by
  have h := congrArg cps h
  cases n with
  | ofNat n =>
    cases m with
    | ofNat m =>
      have h : cps (iw (n : Int)) = cps (iw (m : Int)) := h
      rw [iw_nat, iw_nat] at h
      exact congrArg Int.ofNat (_root_.TL.numL_inj h)
    | negSucc m =>
      have h : cps (iw (n : Int)) = _ := h
      rw [iw_nat, iw_neg] at h
      have := _root_.TL.numL_digits n 45 (by show 45 ∈ numL n; rw [h]; simp)
      omega
  | negSucc n =>
    cases m with
    | ofNat m =>
      have h : _ = cps (iw (m : Int)) := h
      rw [iw_nat, iw_neg] at h
      have := _root_.TL.numL_digits m 45 (by show 45 ∈ numL m; rw [← h]; simp)
      omega
    | negSucc m =>
      rw [iw_neg, iw_neg] at h
      have := _root_.TL.numL_inj (List.cons.inj h).2
      have : n = m := by omega
      rw [this]
theorem cut_tail (z : Str) (c : Nat) (r : List Nat) (h : cps z = c :: r) : cps (cutS z (some 1) none) = r := by
  have hl : z.length = r.length + 1 := by rw [str_len, h]; rfl
  show (((cps z).drop (HT.sIx z.length 0 (some 1))).take (HT.sIx z.length z.length none - HT.sIx z.length 0 (some 1))) = r
  rw [show (some (1 : Int)) = some ((1 : Nat) : Int) from rfl, HT.sIx_nat, HT.sIx_none, hl, h, show min 1 (r.length + 1) = 1 by omega]
  simp
theorem cut_first (z : Str) (c : Nat) (r : List Nat) (h : cps z = c :: r) : cutS z none (some 1) = ⟨#[c]⟩ := by
  refine str_ext ?_
  have hl : z.length = r.length + 1 := by rw [str_len, h]; rfl
  show (((cps z).drop (HT.sIx z.length 0 none)).take (HT.sIx z.length z.length (some 1) - HT.sIx z.length 0 none)) = [c]
  rw [show (some (1 : Int)) = some ((1 : Nat) : Int) from rfl, HT.sIx_nat, HT.sIx_none, hl, h, show min 1 (r.length + 1) = 1 by omega]
  simp
/-- a key as it is written -/
def kwd : Ky → Str
  | .num n => iw n
  | .prt a b => if b = 1 then iw a else iw a ++ ("/" : Str) ++ iw (b : Int)
  | .txt z => ("'" : Str) ++ z
theorem cps_app (x y : Str) : cps (x ++ y) = cps x ++ cps y := _root_.TL.tl_append x y
theorem cps_slash : cps ("/" : Str) = [47] := by decide
theorem cps_quote : cps ("'" : Str) = [39] := by decide
theorem kwd_signs {kd : Kd} {k : Ky} (h : KyOk kd k) {c : Nat} (hc : c ∈ cps (kwd k)) : 39 ≤ c := by
  cases k with
  | num n => rcases iw_signs hc with h | h <;> omega
  | prt a b =>
    have hc : c ∈ cps (if b = 1 then iw a else iw a ++ ("/" : Str) ++ iw (b : Int)) := hc
    split at hc
    · rcases iw_signs hc with h | h <;> omega
    · rw [cps_app, cps_app] at hc
      rcases List.mem_append.mp hc with hc | hc
      · rcases List.mem_append.mp hc with hc | hc
        · rcases iw_signs hc with h | h <;> omega
        · rw [cps_slash, List.mem_singleton] at hc
          omega
      · rcases iw_signs hc with h | h <;> omega
  | txt z =>
    have h : Letters z ∧ z.length ≤ 20 := by cases kd <;> first | exact h | exact False.elim h
    show 39 ≤ c
    have hc : c ∈ cps (("'" : Str) ++ z) := hc
    rw [cps_app] at hc
    rcases List.mem_append.mp hc with hc | hc
    · rw [cps_quote, List.mem_singleton] at hc
      omega
    · have := h.1 c hc
      omega
theorem kwd_len {kd : Kd} {k : Ky} (h : KyOk kd k) : (kwd k).length ≤ 100 ∧ 1 ≤ (kwd k).length := by
  have pos : ∀ n : Int, 1 ≤ (iw n).length := fun n => by
    rw [str_len]
    cases n with
    | ofNat n =>
      show 1 ≤ (cps (iw (n : Int))).length
      rw [iw_nat]
      exact List.length_pos_iff.mpr (_root_.TL.numL_ne n)
    | negSucc n => rw [iw_neg, List.length_cons]; omega
  cases k with
  | num n =>
    have h : n.natAbs < 10 ^ 18 := by cases kd <;> first | exact h | exact False.elim h
    have := (iw_int h).2
    exact ⟨by show (iw n).length ≤ 100; omega, pos n⟩
  | prt a b =>
    have h : a.natAbs < 10 ^ 18 ∧ 1 ≤ b ∧ b ≤ 60 ∧ Nat.gcd a.natAbs b = 1 := by cases kd <;> first | exact h | exact False.elim h
    have h1 := (iw_int h.1).2
    have h2 := (iw_int (n := (b : Int)) (by show b < _; omega)).2
    have p1 := pos a
    show (if b = 1 then iw a else iw a ++ ("/" : Str) ++ iw (b : Int)).length ≤ 100 ∧ 1 ≤ (if b = 1 then iw a else iw a ++ ("/" : Str) ++ iw (b : Int)).length
    split
    · exact ⟨by omega, p1⟩
    · rw [str_len] at h1 h2 p1
      rw [str_len, cps_app, cps_app, List.length_append, List.length_append, cps_slash, List.length_singleton]
      omega
  | txt z =>
    have h : Letters z ∧ z.length ≤ 20 := by cases kd <;> first | exact h | exact False.elim h
    show (("'" : Str) ++ z).length ≤ 100 ∧ 1 ≤ (("'" : Str) ++ z).length
    have h2 := h.2
    rw [str_len] at h2
    rw [str_len, cps_app, List.length_append, cps_quote, List.length_singleton]
    omega
end Fs

set_option maxHeartbeats 4000000
/-! Words read and written. -/
namespace Fs
open PySem PySem.Spec PyProof.Rows L2
theorem cps_figs : cps ("0123456789" : Str) = [48, 49, 50, 51, 52, 53, 54, 55, 56, 57] := by decide
theorem cps_letters : cps ("abcdefghijklmnopqrstuvwxyz" : Str) = (List.range 26).map (97 + ·) := by decide
theorem len_app (x y : Str) : (x ++ y).length = x.length + y.length := by rw [str_len, cps_app, List.length_append, ← str_len, ← str_len]
theorem in_figs {c : Nat} (h : 48 ≤ c ∧ c ≤ 57) : c ∈ cps ("0123456789" : Str) := by
  rw [cps_figs]
  simp
  omega
theorem in_letters {c : Nat} (h : 97 ≤ c ∧ c ≤ 122) : c ∈ cps ("abcdefghijklmnopqrstuvwxyz" : Str) := by
  rw [cps_letters]
  exact List.mem_map.mpr ⟨c - 97, List.mem_range.mpr (by omega), by omega⟩
def rStrX : List V → Hp → VK → Prop := fun xs H Q => (∃ i, xs = [.int i] ∧ i.natAbs.log2 < 1920 ∧ Q (.str (toString i)) H) ∨ ∃ z, xs = [.str z] ∧ Q (.str z) H
theorem strX {X : Cx} : CallR X (.type "str") rStrX := fun pins s σ H xs us Q I r h => h.elim (fun ⟨i, a, b, c⟩ => call_str_int pins s σ H xs us Q I r ⟨i, a, b, c⟩) (fun ⟨z, a, b⟩ => SkE.call_str_str pins s σ H xs us Q I r ⟨z, a, b⟩)
theorem log_small {n : Int} (h : n.natAbs < 10 ^ 18) : n.natAbs.log2 < 1920 := by
  by_cases e : n.natAbs = 0
  · rw [e]; decide
  · exact Nat.lt_of_lt_of_le ((Nat.log2_lt e).mpr (Nat.lt_of_lt_of_le h (by decide : 10 ^ 18 ≤ 2 ^ 60))) (by decide)
/-- words side by side, a bar where there are none -/
def wds (sep : Str) (ws : List Str) : Str := if ws = [] then ("-" : Str) else Txt.join sep ws
abbrev nword (ns : List Nat) : Str := wds " " (ns.map fun n : Nat => iw (n : Int))
theorem len_sum {k : Nat} : ∀ {ws : List Str}, (∀ z ∈ ws, z.length ≤ k) → (ws.map (·.length)).sum ≤ ws.length * k
  | [], _ => Nat.zero_le _
  | z :: ws, h => by
    have := len_sum (ws := ws) fun y hy => h y (List.mem_cons_of_mem _ hy)
    have := h z (List.mem_cons_self ..)
    rw [List.map_cons, List.sum_cons, List.length_cons, Nat.add_mul]
    omega
def mparts : Mv → List Str
  | .take p => ["take", iw (p : Int)]
  | .move s p => ["move", iw (s : Int), iw (p : Int)]
  | .lay p => ["lay", iw (p : Int)]
abbrev mword (m : Mv) : Str := Txt.join " " (mparts m)
section
variable {P : Program} {w : World} {K : PySem.W.Frag} {mg : Str → Option Value} {base : Heap} {T : TL}
def sp_are_figures (K : PySem.W.Frag) (T : TL) : Sp := fun vs H Q _ => ∃ (G : Hp) (l : List (Addr × HO)) (z : Str) (n : Nat), vs = [.str z] ∧ Own T G H l ∧ cps z = numL n ∧ n < 10 ^ 18 ∧ ∀ H', Own T G H' l → Q (.bl true) H'
theorem sc_are_figures : FnScope ["word", "sign"] ["word"] (defScope s_are_figures) := ⟨rfl, rfl, rfl, by decide +kernel, rfl, by decide +kernel, by decide +kernel⟩
theorem cal_are_figures (t : Ctx K mg base T) : Cal P w K mg base 1 "are_figures" ["word"] (sp_are_figures K T) := by
  refine cal_of t.d_are_figures t.g_are_figures sc_are_figures (fun _ _ _ _ _ _ us hl => match us, hl with | [_], _ => rfl) (fun vs H Q E h => ?_) (fun cdv A outer s H vs Q E hr h => ?_)
  · obtain ⟨G, l, z, n, rfl, _⟩ := h
    rfl
  · obtain ⟨G, l, z, n, rfl, O, hz, hn, q⟩ := h
    refine ⟨_, (pss_cons (ps_if (PW.pt (pw_or (pt_not (pt_chain op_le op_le pe_int (pe_callB call_len_str (by rfl) t.len (by decide +kernel) (pa_cons (pv 0) pa_nil)) (pe_gi t.c_MOST_FIGURES))) (pw_or1 (pt_not (pt_val (pe_callB (allK rfl) (by rfl) t.all (by decide +kernel) (pa_cons (pe_lc (own := [("sign", 1)]) (g := gName 1) (tt := tYes) (by rfl) sc_are_figures.nd (pi_str (pv 0)) (blkOk_by (own := [("sign", 1)]) (N := ["word", "sign"]) (sc := defScope s_are_figures) (by decide +kernel)) (fun _ _ _ _ _ => (pg_name (i := 1) sc_are_figures.nd rfl (.inl rfl))) (fun _ _ _ _ _ => pts_nil) (fun _ _ _ _ _ => (pe_cmpR op_in_sign (pv 1) (pe_gs t.c_FIGURES) (by rfl)))) pa_nil)))))))
        (pss_one (ps_ret pe_bl))
        pss_nil)
      (pss_one (ps_ret (pe_or (pe_cmpR op_eq (pv 0) pe_str (nomark _)) (pe_one (pe_cmpR op_ne (pe_ix ix_str (pv 0) pe_int (fun _ _ => rfl)) pe_str (nomark _))))))), ?_⟩
    have l1 : (numL n).length ≤ 18 := _root_.TL.numL_len (by omega) hn
    have l0 : 1 ≤ (numL n).length := List.length_pos_iff.mpr (_root_.TL.numL_ne n)
    have zl : z.length = (numL n).length := by rw [str_len, hz]
    refine ⟨.str z, rfl, _, rfl, sz (by omega), _, _, rfl, rfl, _, rfl, ?_⟩
    rw [decide_eq_true (by omega : (1 : Int) ≤ (z.length : Int))]
    refine iteT ⟨_, _, rfl, rfl, _, rfl, ?_⟩
    rw [decide_eq_true (by omega : (z.length : Int) ≤ 18)]
    refine iteF ?_
    refine ⟨.str z, rfl, z, rfl, fun D nD => lc_valS [some (.str z), none] rfl (ys := cps z) walk_str O nD (by simp [cps]) (by show z.length < _; omega) (fun c => .bl (decide (c ∈ cps ("0123456789" : Str)))) (fun _ _ => trivial) (fun i v c H1 H2 acc Qc hi ec O1 hy hQ => ?_) (fun H1 O1 => ?_)⟩
    · obtain ⟨rfl, c', ec', rfl⟩ := hy
      obtain rfl : c' = c := by
        have : (cps z)[i]? = some c' := by rw [← ec']; simp [cps]
        exact Option.some.inj (this.symm.trans ec)
      exact ⟨rfl, _, rfl, c', _, rfl, rfl, hQ _ O1⟩
    · refine ⟨D, (cps z).map fun c => decide (c ∈ cps ("0123456789" : Str)), rfl, .inl (.inl (by rw [O1.l0, List.map_map]; rfl)), ?_⟩
      have e : ((cps z).map fun c => decide (c ∈ cps ("0123456789" : Str))).all id = true := by
        rw [List.all_map, List.all_eq_true]
        intro c hc
        rw [hz] at hc
        exact decide_eq_true (in_figs (_root_.TL.numL_digits n c hc))
      rw [e]
      refine ⟨true, rfl, iteF ?_⟩
      refine ⟨.str z, rfl, rfl, _, rfl, ite2 (fun _ => q _ O1.drop) (fun h => ?_)⟩
      have hn0 : 0 < n := by
        rcases Nat.eq_zero_or_pos n with h0 | h0
        · refine absurd (decide_eq_true ?_) h
          rw [str_ext (x := z) (y := "0") (by rw [hz, h0, numL0]; decide)]
        · exact h0
      obtain ⟨c, r, ec, hc⟩ := numL_head n hn0
      refine ⟨.str z, rfl, z, _, c, rfl, rfl, sz (by omega), atI_nat (j := 0) (by show (cps z)[0]? = _; rw [hz, ec]; rfl), rfl, ?_⟩
      have e2 : decide (V.str ⟨#[c]⟩ = V.str ("0" : Str)) = false := decide_eq_false fun h => hc (by
        injection h with h
        have := congrArg cps h
        have e3 : cps ("0" : Str) = [48] := by decide
        rw [e3] at this
        exact (List.cons.inj this).1)
      rw [e2]
      exact q _ O1.drop
def sp_number_read (K : PySem.W.Frag) (T : TL) : Sp := fun vs H Q _ => ∃ (G : Hp) (l : List (Addr × HO)) (n : Int), vs = [.str (iw n)] ∧ Own T G H l ∧ n.natAbs < 10 ^ 18 ∧ ∀ H', Own T G H' l → Q (.int n) H'
theorem sc_number_read : FnScope ["word", "bare"] ["word"] (defScope s_number_read) := ⟨rfl, rfl, rfl, by decide +kernel, rfl, by decide +kernel, by decide +kernel⟩
theorem cal_number_read (t : Ctx K mg base T) : Cal P w K mg base 2 "number_read" ["word"] (sp_number_read K T) := by
  refine cal_of t.d_number_read t.g_number_read sc_number_read (fun _ _ _ _ _ _ us hl => match us, hl with | [_], _ => rfl) (fun vs H Q E h => ?_) (fun cdv A outer s H vs Q E hr h => ?_)
  · obtain ⟨G, l, n, rfl, _⟩ := h
    rfl
  · obtain ⟨G, l, n, rfl, O, hn, q⟩ := h
    refine ⟨_, (pss_cons (ps_set (i := 1) sc_number_read.nd rfl (.inl rfl) (pe_ifExp (pt_cmpR op_eq (pe_slice sl_str (pv 0) po_none (po_some pe_int)) pe_str (nomark _)) (pe_slice sl_str (pv 0) (po_some pe_int) po_none) (pv 0)))
      (pss_cons (ps_if (PW.pt (pw_or (pt_not (pt_val (pe_cal (cal_are_figures t) hr (pa_cons (pv 1) pa_nil)))) (pw_or1 (pt_cmpR op_eq (pv 0) pe_str (nomark _)))))
        (pss_one (ps_ret pe_non))
        pss_nil)
      (pss_one (ps_ret (pe_callTy call_int_str (by rfl) t.int (by decide +kernel) (pa_cons (pv 0) pa_nil)))))), ?_⟩
    obtain ⟨hi, hl⟩ := iw_int hn
    have hs : (iw n).length ≤ sizeLine := sz (by omega)
    have fin : ∀ (z : Str) (m : Nat) (σ : L2.St), cps z = numL m → m < 10 ^ 18 → iw n ≠ ("-0" : Str) → tSeq (tIfS (tOr (tNot (tB (tCall (sp_are_figures K T) [] E0 (tCons (tVar 1) tNil)))) (tTest (tOp rEq (tVar 0) (tC (.str "-0"))))) (tRet (tC .non)) tNext) (tRet (tCB (fun xs H Q => ∃ a n, xs = [V.str a] ∧ PySem.intText? a = some n ∧ a.length ≤ 640 ∧ Q (.int n) H) (tCons (tVar 0) tNil))) { nx := fun _ H' => Q .non H', rt := Q } [some (.str (iw n)), some (.str z)] H := by
      intro z m σ hz hm hne
      refine ⟨.str z, rfl, G, l, z, m, rfl, O, hz, hm, fun H' O' => ⟨true, rfl, iteF ?_⟩⟩
      refine ⟨.str (iw n), rfl, rfl, _, rfl, ?_⟩
      rw [decide_eq_false (fun h => hne (by injection h))]
      exact iteF ⟨.str (iw n), rfl, iw n, n, rfl, hi, by omega, q _ O'⟩
    have e3 : cps ("-" : Str) = [45] := by decide
    have e4 : cps ("-0" : Str) = [45, 48] := by decide
    cases n with
    | ofNat n =>
      have ez : cps (iw (Int.ofNat n)) = numL n := iw_nat n
      obtain ⟨c, r, ec⟩ : ∃ c r, numL n = c :: r := by
        cases e : numL n with
        | nil => exact absurd e (_root_.TL.numL_ne n)
        | cons c r => exact ⟨c, r, rfl⟩
      have hc := _root_.TL.numL_digits n c (by show c ∈ numL n; rw [ec]; simp)
      refine ⟨.str (iw (Int.ofNat n)), rfl, _, rfl, iw (Int.ofNat n), rfl, hs, rfl, _, rfl, ?_⟩
      rw [cut_first _ c r (by rw [ez, ec]), decide_eq_false (fun h => by
        injection h with h
        have := congrArg cps h
        rw [e3] at this
        have := (List.cons.inj this).1
        omega)]
      refine iteF ⟨.str (iw (Int.ofNat n)), rfl, ?_⟩
      exact fin (iw (Int.ofNat n)) n [] ez hn (fun h => by
        have := congrArg cps h
        rw [ez, ec, e4] at this
        have := (List.cons.inj this).1
        omega)
    | negSucc n =>
      have ez := iw_neg n
      refine ⟨.str (iw (Int.negSucc n)), rfl, _, rfl, iw (Int.negSucc n), rfl, hs, rfl, _, rfl, ?_⟩
      rw [cut_first _ 45 _ ez, decide_eq_true (by rw [show (⟨#[45]⟩ : Str) = ("-" : Str) by decide])]
      refine iteT ⟨.str (iw (Int.negSucc n)), rfl, _, rfl, iw (Int.negSucc n), rfl, hs, ?_⟩
      exact fin (cutS (iw (Int.negSucc n)) (some 1) none) (n + 1) [] (cut_tail _ 45 _ ez) hn (fun h => by
        have := congrArg cps h
        rw [ez, e4] at this
        have := (List.cons.inj this).2
        rw [← numL0] at this
        have := _root_.TL.numL_inj this
        omega)
def sp_is_between (K : PySem.W.Frag) (T : TL) : Sp := fun vs H Q _ => ∃ (G : Hp) (l : List (Addr × HO)) (n a b : Nat), vs = [.str (iw (n : Int)), nv a, nv b] ∧ Own T G H l ∧ n < 10 ^ 18 ∧ a ≤ n ∧ n ≤ b ∧ ∀ H', Own T G H' l → Q (.bl true) H'
theorem sc_is_between : FnScope ["word", "least", "most"] ["word", "least", "most"] (defScope s_is_between) := ⟨rfl, rfl, rfl, by decide +kernel, rfl, by decide +kernel, by decide +kernel⟩
theorem cal_is_between (t : Ctx K mg base T) : Cal P w K mg base 2 "is_between" ["word", "least", "most"] (sp_is_between K T) := by
  refine cal_of t.d_is_between t.g_is_between sc_is_between (fun _ _ _ _ _ _ us hl => match us, hl with | [_, _, _], _ => rfl) (fun vs H Q E h => ?_) (fun cdv A outer s H vs Q E hr h => ?_)
  · obtain ⟨G, l, n, a, b, rfl, _⟩ := h
    rfl
  · obtain ⟨G, l, n, a, b, rfl, O, hn, ha, hb, q⟩ := h
    refine ⟨_, (pss_one (ps_ret (pe_and (pe_cal (cal_are_figures t) hr (pa_cons (pv 0) pa_nil)) (pe_one (pe_chain op_le op_le (pv 1) (pe_callTy call_int_str (by rfl) t.int (by decide +kernel) (pa_cons (pv 0) pa_nil)) (pv 2)))))), ?_⟩
    obtain ⟨hi, hl⟩ := iw_int (n := (n : Int)) hn
    refine ⟨.str (iw (n : Int)), rfl, G, l, _, n, rfl, O, iw_nat n, hn, fun H' O' => ⟨true, rfl, iteT ?_⟩⟩
    refine ⟨nv a, rfl, .str (iw (n : Int)), rfl, _, _, rfl, hi, by omega, _, _, rfl, rfl, _, rfl, ?_⟩
    rw [decide_eq_true (by omega : (a : Int) ≤ (n : Int))]
    refine iteT ⟨nv b, rfl, _, _, rfl, rfl, ?_⟩
    have := q _ O'
    show Q (.bl (decide ((n : Int) ≤ (b : Int)))) H'
    rw [decide_eq_true (by omega : (n : Int) ≤ (b : Int))]
    exact this
def sp_part_read (K : PySem.W.Frag) (T : TL) : Sp := fun vs H Q _ => ∃ (G : Hp) (l : List (Addr × HO)) (a : Int) (b : Nat), vs = [.str (kwd (.prt a b))] ∧ Own T G H l ∧ KyOk .P (.prt a b) ∧ ∀ G' H' v, Same G G' → Own T G' H' l → KeyV K G' v (.prt a b) → v ≠ .non → Q v H'
theorem sc_part_read : FnScope ["word", "head", "sign", "tail", "top"] ["word"] (defScope s_part_read) := ⟨rfl, rfl, rfl, by decide +kernel, rfl, by decide +kernel, by decide +kernel⟩
theorem cal_part_read (t : Ctx K mg base T) : Cal P w K mg base 3 "part_read" ["word"] (sp_part_read K T) := by
  refine cal_of t.d_part_read t.g_part_read sc_part_read (fun _ _ _ _ _ _ us hl => match us, hl with | [_], _ => rfl) (fun vs H Q E h => ?_) (fun cdv A outer s H vs Q E hr h => ?_)
  · obtain ⟨G, l, a, b, rfl, _⟩ := h
    rfl
  · obtain ⟨G, l, a, b, rfl, O, ⟨h1,h2,h3,h4⟩, q⟩ := h
    refine ⟨_, (pss_cons (ps_asg (pe_partition (pv 0) pe_str) (pg_tup (by rfl) (pgs_cons (pg_name (i := 1) sc_part_read.nd rfl (.inl rfl)) (pgs_cons (pg_name (i := 2) sc_part_read.nd rfl (.inl rfl)) (pgs_cons (pg_name (i := 3) sc_part_read.nd rfl (.inl rfl)) pgs_nil)))))
      (pss_cons (ps_set (i := 4) sc_part_read.nd rfl (.inl rfl) (pe_cal (cal_number_read t) hr (pa_cons (pv 1) pa_nil)))
      (pss_cons (ps_if (PW.pt (pw_or (pt_cmpR op_isN (pv 4) pe_non (nomark _)) (pw_or1 (pt_cmpR op_eq (pv 2) pe_str (nomark _)))))
        (pss_one (ps_ret (pe_ifExp (pt_cmpR op_isN (pv 4) pe_non (nomark _)) pe_non (pe_tup (pa_cons (pv 4) (pa_cons pe_int pa_nil))))))
        pss_nil)
      (pss_cons (ps_if (PW.pt (pw_or (pt_not (pt_val (pe_cal (cal_is_between t) hr (pa_cons (pv 3) (pa_cons pe_int (pa_cons (pe_gi t.c_MOST_BOTTOM) pa_nil)))))) (pw_or1 (pt_cmpR op_ne (pe_cal (cal_shared_factor t) hr (pa_cons (pe_callTy call_int_str (by rfl) t.int (by decide +kernel) (pa_cons (pv 3) pa_nil)) (pa_cons (pe_callB call_abs (by rfl) t.abs (by decide +kernel) (pa_cons (pv 4) pa_nil)) pa_nil))) pe_int (nomark _)))))
        (pss_one (ps_ret pe_non))
        pss_nil)
      (pss_one (ps_ret (pe_tup (pa_cons (pv 4) (pa_cons (pe_callTy call_int_str (by rfl) t.int (by decide +kernel) (pa_cons (pv 3) pa_nil)) pa_nil))))))))), ?_⟩
    obtain ⟨ka, la⟩ := iw_int h1
    have kl := kwd_len (kd := .P) (k := .prt a b) ⟨h1, h2, h3, h4⟩
    have e5 : cps ("/" : Str) = [47] := cps_slash
    have no : (47 : Nat) ∉ cps (iw a) := fun h => by rcases iw_signs h with h | h <;> omega
    refine ⟨.str (kwd (.prt a b)), rfl, ⟨_, rfl⟩, _, _, rfl, rfl, rfl, sz (by omega), fun p np => ?_⟩
    by_cases hb : b = 1
    · subst hb
      have ek : kwd (.prt a 1) = iw a := by show (if (1 : Nat) = 1 then iw a else iw a ++ ("/" : Str) ++ iw ((1 : Nat) : Int)) = iw a; rw [if_pos rfl]
      rw [ek, _root_.TL.partition_none e5 no]
      have O1 := own_new (o := .tup [.str (iw a), .str Str.empty, .str Str.empty]) O np
      refine ⟨p, _, rfl, .inl (.inl O1.l0), rfl, .str (iw a), _, rfl, .str Str.empty, _, rfl, .str Str.empty, _, rfl, rfl, ?_⟩
      refine ⟨.str (iw a), rfl, G, l, a, rfl, O1.drop, h1, fun H2 O2 => ?_⟩
      refine ⟨.int a, rfl, rfl, _, rfl, iteF ?_⟩
      refine ⟨.str Str.empty, rfl, rfl, _, rfl, ?_⟩
      rw [decide_eq_true (by rfl : V.str Str.empty = V.str ("" : Str))]
      refine iteT ⟨.int a, rfl, rfl, _, rfl, iteF ⟨.int a, rfl, two_ok, fun z nz => ?_⟩⟩
      have O3 := own_new (o := .tup [.int a, .int 1]) O2 nz
      exact q _ _ _ O3.gup O3.frz ⟨z, rfl, .inl (.inl upd_same)⟩ (fun h => nomatch h)
    · have ek : kwd (.prt a b) = iw a ++ ("/" : Str) ++ iw (b : Int) := if_neg hb
      rw [ek, _root_.TL.partition_app e5 no]
      obtain ⟨kb, lb⟩ := iw_int (n := (b : Int)) (by show b < _; omega)
      have O1 := own_new (o := .tup [.str (iw a), .str "/", .str (iw (b : Int))]) O np
      refine ⟨p, _, rfl, .inl (.inl O1.l0), rfl, .str (iw a), _, rfl, .str "/", _, rfl, .str (iw (b : Int)), _, rfl, rfl, ?_⟩
      refine ⟨.str (iw a), rfl, G, l, a, rfl, O1.drop, h1, fun H2 O2 => ?_⟩
      refine ⟨.int a, rfl, rfl, _, rfl, iteF ?_⟩
      refine ⟨.str "/", rfl, rfl, _, rfl, ?_⟩
      rw [decide_eq_false (by decide : ¬ V.str ("/" : Str) = V.str ("" : Str))]
      refine iteF ?_
      refine ⟨.str (iw (b : Int)), rfl, G, l, b, 2, 60, rfl, O2, by omega, by omega, h3, fun H3 O3 => ⟨true, rfl, iteF ?_⟩⟩
      refine ⟨.str (iw (b : Int)), rfl, _, _, rfl, kb, by omega, .int a, rfl, _, rfl, b, a.natAbs, ?_, rfl, _, rfl, ?_⟩
      · show [V.int (b : Int), V.int (if a < 0 then -a else a)] = [V.int (b : Int), V.int (a.natAbs : Int)]
        congr 3
        split <;> omega
      · rw [Nat.gcd_comm, h4, decide_eq_true (by rfl : nv 1 = V.int 1)]
        refine iteF ⟨.int a, rfl, .str (iw (b : Int)), rfl, _, _, rfl, kb, by omega, two_ok, fun z nz => ?_⟩
        have O4 := own_new (o := .tup [.int a, nv b]) O3 nz
        exact q _ _ _ O4.gup O4.frz ⟨z, rfl, .inl (.inl upd_same)⟩ (fun h => nomatch h)
def sp_text_read (K : PySem.W.Frag) (T : TL) : Sp := fun vs H Q _ => ∃ (G : Hp) (l : List (Addr × HO)) (z : Str), vs = [.str (("'" : Str) ++ z)] ∧ Own T G H l ∧ Letters z ∧ z.length ≤ 20 ∧ ∀ H', Own T G H' l → Q (.str z) H'
theorem sc_text_read : FnScope ["word", "sign"] ["word"] (defScope s_text_read) := ⟨rfl, rfl, rfl, by decide +kernel, rfl, by decide +kernel, by decide +kernel⟩
theorem cal_text_read (t : Ctx K mg base T) : Cal P w K mg base 1 "text_read" ["word"] (sp_text_read K T) := by
  refine cal_of t.d_text_read t.g_text_read sc_text_read (fun _ _ _ _ _ _ us hl => match us, hl with | [_], _ => rfl) (fun vs H Q E h => ?_) (fun cdv A outer s H vs Q E hr h => ?_)
  · obtain ⟨G, l, z, rfl, _⟩ := h
    rfl
  · obtain ⟨G, l, z, rfl, O, hz, hl, q⟩ := h
    refine ⟨_, (pss_cons (ps_if (PW.pt (pw_or (pt_cmpR op_ne (pe_slice sl_str (pv 0) po_none (po_some pe_int)) pe_str (nomark _)) (pw_or (pt_cmpR op_gt (pe_callB call_len_str (by rfl) t.len (by decide +kernel) (pa_cons (pv 0) pa_nil)) (pe_op op_add (pe_gi t.c_MOST_LETTERS) pe_int) (nomark _)) (pw_or1 (pt_not (pt_val (pe_callB (allK rfl) (by rfl) t.all (by decide +kernel) (pa_cons (pe_lc (own := [("sign", 1)]) (g := gName 1) (tt := tYes) (by rfl) sc_text_read.nd (pi_str (pe_slice sl_str (pv 0) (po_some pe_int) po_none)) (blkOk_by (own := [("sign", 1)]) (N := ["word", "sign"]) (sc := defScope s_text_read) (by decide +kernel)) (fun _ _ _ _ _ => (pg_name (i := 1) sc_text_read.nd rfl (.inl rfl))) (fun _ _ _ _ _ => pts_nil) (fun _ _ _ _ _ => (pe_cmpR op_in_sign (pv 1) (pe_gs t.c_LETTERS) (by rfl)))) pa_nil))))))))
        (pss_one (ps_ret pe_non))
        pss_nil)
      (pss_one (ps_ret (pe_slice sl_str (pv 0) (po_some pe_int) po_none)))), ?_⟩
    have ew : cps (("'" : Str) ++ z) = 39 :: cps z := by rw [cps_app, cps_quote]; rfl
    have ht : cutS (("'" : Str) ++ z) (some 1) none = z := str_ext (cut_tail _ 39 _ ew)
    have hlen : (("'" : Str) ++ z).length = z.length + 1 := by rw [str_len, ew, List.length_cons, ← str_len]
    have hs : (("'" : Str) ++ z).length ≤ sizeLine := sz (by omega)
    refine ⟨.str (("'" : Str) ++ z), rfl, _, rfl, ("'" : Str) ++ z, rfl, hs, rfl, _, rfl, ?_⟩
    rw [cut_first _ 39 _ ew, decide_eq_true (by rw [show (⟨#[39]⟩ : Str) = ("'" : Str) by decide])]
    refine iteF ⟨.str (("'" : Str) ++ z), rfl, _, rfl, hs, _, _, rfl, rfl, _, _, rfl, rfl, _, rfl, ?_⟩
    rw [decide_eq_false (show ¬ (20 : Int) + 1 < ((("'" : Str) ++ z).length : Int) by omega)]
    refine iteF ⟨.str (("'" : Str) ++ z), rfl, _, rfl, ("'" : Str) ++ z, rfl, hs, z, by rw [ht], fun D nD => lc_valS [some (.str (("'" : Str) ++ z)), none] rfl (ys := cps z) walk_str O nD (by simp [cps]) (by show z.length < _; omega) (fun c => .bl (decide (c ∈ cps ("abcdefghijklmnopqrstuvwxyz" : Str)))) (fun _ _ => trivial) (fun i v c H1 H2 acc Qc hi ec O1 hy hQ => ?_) (fun H1 O1 => ?_)⟩
    · obtain ⟨rfl, c', ec', rfl⟩ := hy
      obtain rfl : c' = c := by
        have : (cps z)[i]? = some c' := by rw [← ec']; simp [cps]
        exact Option.some.inj (this.symm.trans ec)
      exact ⟨rfl, _, rfl, c', _, rfl, rfl, hQ _ O1⟩
    · refine ⟨D, (cps z).map fun c => decide (c ∈ cps ("abcdefghijklmnopqrstuvwxyz" : Str)), rfl, .inl (.inl (by rw [O1.l0, List.map_map]; rfl)), ?_⟩
      have e : ((cps z).map fun c => decide (c ∈ cps ("abcdefghijklmnopqrstuvwxyz" : Str))).all id = true := by
        rw [List.all_map, List.all_eq_true]
        intro c hc
        exact decide_eq_true (in_letters (hz c hc))
      rw [e]
      refine ⟨true, rfl, iteF ⟨.str (("'" : Str) ++ z), rfl, _, rfl, ("'" : Str) ++ z, rfl, hs, ?_⟩⟩
      have := q _ O1.drop
      rw [← ht] at this
      exact this
def sp_key_read (K : PySem.W.Frag) (T : TL) : Sp := fun vs H Q _ => ∃ (G : Hp) (l : List (Addr × HO)) (kd : Kd) (k : Ky), vs = [.str kd.s, .str (kwd k)] ∧ Own T G H l ∧ KyOk kd k ∧ ∀ G' H' v, Same G G' → Own T G' H' l → KeyV K G' v k → v ≠ .non → Q v H'
theorem sc_key_read : FnScope ["kind", "word"] ["kind", "word"] (defScope s_key_read) := ⟨rfl, rfl, rfl, by decide +kernel, rfl, by decide +kernel, by decide +kernel⟩
theorem cal_key_read (t : Ctx K mg base T) : Cal P w K mg base 4 "key_read" ["kind", "word"] (sp_key_read K T) := by
  refine cal_of t.d_key_read t.g_key_read sc_key_read (fun _ _ _ _ _ _ us hl => match us, hl with | [_, _], _ => rfl) (fun vs H Q E h => ?_) (fun cdv A outer s H vs Q E hr h => ?_)
  · obtain ⟨G, l, kd, k, rfl, _⟩ := h
    rfl
  · obtain ⟨G, l, kd, k, rfl, O, hk, q⟩ := h
    refine ⟨_, (pss_cons (ps_if (pt_cmpR op_eq (pv 0) (pe_gs t.c_NUMBER) (nomark _))
        (pss_one (ps_ret (pe_cal (cal_number_read t) hr (pa_cons (pv 1) pa_nil))))
        pss_nil)
      (pss_cons (ps_if (pt_cmpR op_eq (pv 0) (pe_gs t.c_PART) (nomark _))
        (pss_one (ps_ret (pe_cal (cal_part_read t) hr (pa_cons (pv 1) pa_nil))))
        pss_nil)
      (pss_one (ps_ret (pe_cal (cal_text_read t) hr (pa_cons (pv 1) pa_nil)))))), ?_⟩
    refine ⟨.str kd.s, rfl, rfl, _, rfl, ?_⟩
    cases kd with
    | N =>
      refine ite2 (fun _ => ?_) (fun h => absurd (decide_eq_true rfl) h)
      cases k with
      | num n => exact ⟨.str (iw n), rfl, G, l, n, rfl, O, hk, fun H' O' => q G H' _ (Same.refl _) O' rfl (fun h => nomatch h)⟩
      | prt a b => exact False.elim hk
      | txt z => exact False.elim hk
    | P =>
      refine ite2 (fun h => absurd (of_decide_eq_true h) (by decide)) (fun _ => ?_)
      refine ⟨.str Kd.P.s, rfl, rfl, _, rfl, ite2 (fun _ => ?_) (fun h => absurd (decide_eq_true rfl) h)⟩
      cases k with
      | num n => exact False.elim hk
      | prt a b => exact ⟨.str (kwd (.prt a b)), rfl, G, l, a, b, rfl, O, hk, q⟩
      | txt z => exact False.elim hk
    | X =>
      refine ite2 (fun h => absurd (of_decide_eq_true h) (by decide)) (fun _ => ?_)
      refine ⟨.str Kd.X.s, rfl, rfl, _, rfl, ite2 (fun h => absurd (of_decide_eq_true h) (by decide)) (fun _ => ?_)⟩
      cases k with
      | num n => exact False.elim hk
      | prt a b => exact False.elim hk
      | txt z => exact ⟨.str (kwd (.txt z)), rfl, G, l, z, rfl, O, hk.1, hk.2, fun H' O' => q G H' _ (Same.refl _) O' rfl (fun h => nomatch h)⟩
def sp_key_word (K : PySem.W.Frag) (T : TL) : Sp := fun vs H Q _ => ∃ (kd : Kd) (v : V) (k : Ky), vs = [.str kd.s, v] ∧ KeyV K H v k ∧ KyOk kd k ∧ Q (.str (kwd k)) H
theorem sc_key_word : FnScope ["kind", "key", "top", "bottom"] ["kind", "key"] (defScope s_key_word) := ⟨rfl, rfl, rfl, by decide +kernel, rfl, by decide +kernel, by decide +kernel⟩
theorem cal_key_word (t : Ctx K mg base T) : Cal P w K mg base 1 "key_word" ["kind", "key"] (sp_key_word K T) := by
  refine cal_of t.d_key_word t.g_key_word sc_key_word (fun _ _ _ _ _ _ us hl => match us, hl with | [_, _], _ => rfl) (fun vs H Q E h => ?_) (fun cdv A outer s H vs Q E hr h => ?_)
  · obtain ⟨kd, v, k, rfl, _⟩ := h
    rfl
  · obtain ⟨kd, v, k, rfl, hv, hk, q⟩ := h
    refine ⟨_, (pss_cons (ps_if (pt_cmpR op_eq (pv 0) (pe_gs t.c_NUMBER) (nomark _))
        (pss_one (ps_ret (pe_callTy strX (by rfl) t.str (by decide +kernel) (pa_cons (pv 1) pa_nil))))
        pss_nil)
      (pss_cons (ps_if (pt_cmpR op_eq (pv 0) (pe_gs t.c_PART) (nomark _))
        (pss_cons (ps_asg (pv 1) (pg_tup (by rfl) (pgs_cons (pg_name (i := 2) sc_key_word.nd rfl (.inl rfl)) (pgs_cons (pg_name (i := 3) sc_key_word.nd rfl (.inl rfl)) pgs_nil))))
        (pss_one (ps_ret (pe_ifExp (pt_cmpR op_eq (pv 3) pe_int (nomark _)) (pe_callTy call_str_int (by rfl) t.str (by decide +kernel) (pa_cons (pv 2) pa_nil)) (pe_op op_add_str (pe_op op_add_str (pe_callTy call_str_int (by rfl) t.str (by decide +kernel) (pa_cons (pv 2) pa_nil)) pe_str) (pe_callTy call_str_int (by rfl) t.str (by decide +kernel) (pa_cons (pv 3) pa_nil)))))))
        pss_nil)
      (pss_one (ps_ret (pe_op op_add_str pe_str (pv 1)))))), ?_⟩
    refine ⟨.str kd.s, rfl, rfl, _, rfl, ?_⟩
    cases kd with
    | N =>
      refine ite2 (fun _ => ?_) (fun h => absurd (decide_eq_true rfl) h)
      cases k with
      | num n =>
        obtain rfl : v = .int n := hv
        exact ⟨.int n, rfl, .inl ⟨n, rfl, log_small hk, q⟩⟩
      | prt a b => exact False.elim hk
      | txt z => exact False.elim hk
    | P =>
      refine ite2 (fun h => absurd (of_decide_eq_true h) (by decide)) (fun _ => ?_)
      refine ⟨.str Kd.P.s, rfl, rfl, _, rfl, ite2 (fun _ => ?_) (fun h => absurd (decide_eq_true rfl) h)⟩
      cases k with
      | num n => exact False.elim hk
      | prt a b =>
        obtain ⟨tt, rfl, ht⟩ := hv
        obtain ⟨h1, h2, h3, h4⟩ := hk
        have la := (iw_int h1).2
        have lb := (iw_int (n := (b : Int)) (by show b < _; omega)).2
        refine ⟨.ref tt, rfl, tt, _, rfl, ht, rfl, .int a, _, rfl, nv b, _, rfl, rfl, nv b, rfl, rfl, _, rfl, ?_⟩
        have ek : kwd (.prt a b) = if b = 1 then iw a else iw a ++ ("/" : Str) ++ iw (b : Int) := rfl
        rw [ek] at q
        by_cases hb : b = 1
        · rw [if_pos hb] at q
          rw [decide_eq_true (by rw [hb]; rfl)]
          exact iteT ⟨.int a, rfl, a, rfl, log_small h1, q⟩
        · rw [if_neg hb] at q
          rw [decide_eq_false (fun h => hb (by injection h with h; omega))]
          have e1 : (("/" : Str)).length = 1 := by decide
          have la' : (Str.ofString (toString a)).length ≤ 19 := la
          have lb' : (Str.ofString (toString (b : Int))).length ≤ 19 := lb
          exact iteF ⟨.int a, rfl, a, rfl, log_small h1, _, _, rfl, rfl, sz (by rw [e1]; omega), .int b, rfl, b, rfl, log_small (by show b < _; omega), _, _, rfl, rfl, sz (by rw [len_app, e1]; omega), q⟩
      | txt z => exact False.elim hk
    | X =>
      refine ite2 (fun h => absurd (of_decide_eq_true h) (by decide)) (fun _ => ?_)
      refine ⟨.str Kd.X.s, rfl, rfl, _, rfl, ite2 (fun h => absurd (of_decide_eq_true h) (by decide)) (fun _ => ?_)⟩
      cases k with
      | num n => exact False.elim hk
      | prt a b => exact False.elim hk
      | txt z =>
        obtain rfl : v = .str z := hv
        have e1 : (("'" : Str)).length = 1 := by decide
        exact ⟨.str z, rfl, _, _, rfl, rfl, sz (by rw [e1]; have := hk.2; omega), q⟩
theorem wds_some {sep : Str} {ws : List Str} (h : 0 < ws.length) : wds sep ws = Txt.join sep ws := if_neg fun e => by rw [e] at h; exact absurd h (by decide)
def sp_numbers_word (K : PySem.W.Frag) (T : TL) : Sp := fun vs H Q _ => ∃ (G : Hp) (l : List (Addr × HO)) (a : Addr) (ns : List Nat), vs = [.ref a] ∧ Own T G H l ∧ NL K G a ns ∧ ns.length ≤ 1000 ∧ (∀ n ∈ ns, n < 10 ^ 18) ∧ ∀ H', Own T G H' l → Q (.str (nword ns)) H'
theorem sc_numbers_word : FnScope ["numbers", "number"] ["numbers"] (defScope s_numbers_word) := ⟨rfl, rfl, rfl, by decide +kernel, rfl, by decide +kernel, by decide +kernel⟩
theorem cal_numbers_word (t : Ctx K mg base T) : Cal P w K mg base 1 "numbers_word" ["numbers"] (sp_numbers_word K T) := by
  refine cal_of t.d_numbers_word t.g_numbers_word sc_numbers_word (fun _ _ _ _ _ _ us hl => match us, hl with | [_], _ => rfl) (fun vs H Q E h => ?_) (fun cdv A outer s H vs Q E hr h => ?_)
  · obtain ⟨G, l, a, ns, rfl, _⟩ := h
    rfl
  · obtain ⟨G, l, a, ns, rfl, O, ha, hn, hs, q⟩ := h
    refine ⟨_, (pss_one (ps_ret (pe_ifExp (pt_cmpR op_gt (pe_callB lenK (by rfl) t.len (by decide +kernel) (pa_cons (pv 0) pa_nil)) pe_int (nomark _)) (joinK pe_str (pe_lc (own := [("number", 1)]) (g := gName 1) (tt := tYes) (by rfl) sc_numbers_word.nd (piL (pv 0)) (blkOk_by (own := [("number", 1)]) (N := ["numbers", "number"]) (sc := defScope s_numbers_word) (by decide +kernel)) (fun _ _ _ _ _ => (pg_name (i := 1) sc_numbers_word.nd rfl (.inl rfl))) (fun _ _ _ _ _ => pts_nil) (fun _ _ _ _ _ => (pe_callTy call_str_int (by rfl) t.str (by decide +kernel) (pa_cons (pv 1) pa_nil))))) (pe_gs t.c_NONE)))), ?_⟩
    have l1 : (" " : Str).length = 1 := by decide
    refine ⟨.ref a, rfl, a, _, rfl, .inl (O.seq ha), _, _, rfl, rfl, _, rfl, ite2 (fun h => ?_) (fun h => ?_)⟩
    · have h0 : 0 < ns.length := by
        have := of_decide_eq_true h
        rw [List.length_map] at this
        omega
      refine ⟨⟨_, rfl⟩, .ref a, rfl, a, rfl, ⟨_, O.seq ha⟩, fun D nD => lc_valS [some (.ref a), none] rfl (ys := ns) walk_list O nD (by simp) (by rw [List.length_map]; omega) (fun n => .str (iw (n : Int))) (fun H' s => s.seq ha) (fun i x n H1 H2 acc Qc hi en O2 hy hQ => ?_) (fun H1 O1 => ?_)⟩
      · obtain ⟨rfl, hy⟩ := hy
        obtain ⟨n', en', rfl⟩ := map_at hy
        obtain rfl : n' = n := Option.some.inj (en'.symm.trans en)
        exact ⟨rfl, nv n', rfl, n', rfl, log_small (hs n' (List.mem_of_getElem? en)), hQ _ O2⟩
      · have hsum := len_sum (k := 19) (ws := ns.map fun n : Nat => iw (n : Int)) fun z hz => by
          obtain ⟨n, hn, rfl⟩ := List.mem_map.mp hz
          exact (iw_int (n := (n : Int)) (hs n hn)).2
        rw [List.length_map] at hsum
        refine ⟨_, D, ns.map fun n : Nat => iw (n : Int), rfl, rfl, .inl (.inl (by rw [O1.l0, List.map_map]; rfl)), by rw [l1, List.length_map]; omega, ?_⟩
        have := q _ O1.drop
        unfold nword at this
        rw [wds_some (by rw [List.length_map]; exact h0)] at this
        exact this
    · have h0 : ns = [] := by
        cases ns with
        | nil => rfl
        | cons n ns => exact absurd (decide_eq_true (by rw [List.length_map, List.length_cons]; omega : (0 : Int) < ((((n :: ns).map nv).length : Nat) : Int))) h
      subst h0
      exact q _ O
def sp_several (K : PySem.W.Frag) (T : TL) : Sp := fun vs H Q _ => ∃ (a : Addr) (ws : List Str), vs = [.ref a] ∧ SL K H a ws ∧ (ws.map (·.length)).sum + ws.length * 3 ≤ 16777216 ∧ Q (.str (wds " ; " ws)) H
theorem sc_several : FnScope ["words"] ["words"] (defScope s_several) := ⟨rfl, rfl, rfl, by decide +kernel, rfl, by decide +kernel, by decide +kernel⟩
theorem cal_several (t : Ctx K mg base T) : Cal P w K mg base 1 "several" ["words"] (sp_several K T) := by
  refine cal_of t.d_several t.g_several sc_several (fun _ _ _ _ _ _ us hl => match us, hl with | [_], _ => rfl) (fun vs H Q E h => ?_) (fun cdv A outer s H vs Q E hr h => ?_)
  · obtain ⟨a, ws, rfl, _⟩ := h
    rfl
  · obtain ⟨a, ws, rfl, ha, hs, q⟩ := h
    refine ⟨_, (pss_one (ps_ret (pe_ifExp (pt_cmpR op_gt (pe_callB lenK (by rfl) t.len (by decide +kernel) (pa_cons (pv 0) pa_nil)) pe_int (nomark _)) (joinK pe_str (pv 0)) (pe_gs t.c_NONE)))), ?_⟩
    have l1 : (" ; " : Str).length = 3 := by decide
    refine ⟨.ref a, rfl, a, _, rfl, .inl ha, _, _, rfl, rfl, _, rfl, ite2 (fun h => ?_) (fun h => ?_)⟩
    · have h0 : 0 < ws.length := by
        have := of_decide_eq_true h
        rw [List.length_map] at this
        omega
      rw [wds_some h0] at q
      exact ⟨⟨_, rfl⟩, .ref a, rfl, _, a, ws, rfl, rfl, ha, by rw [l1]; exact hs, q⟩
    · have h0 : ws = [] := by
        cases ws with
        | nil => rfl
        | cons n ns => exact absurd (decide_eq_true (by rw [List.length_map, List.length_cons]; omega : (0 : Int) < ((((n :: ns).map V.str).length : Nat) : Int))) h
      subst h0
      exact q
def sp_move_word (K : PySem.W.Frag) (T : TL) : Sp := fun vs H Q _ => ∃ (G : Hp) (l : List (Addr × HO)) (v : V) (m : Mv), vs = [v] ∧ Own T G H l ∧ MvV K G v m ∧ MvOk 1000 m ∧ ∀ H', Own T G H' l → Q (.str (mword m)) H'
/-- the parts of a move as values -/
def mvals : Mv → List V
  | .take p => [.str "take", nv p]
  | .move s p => [.str "move", nv s, nv p]
  | .lay p => [.str "lay", nv p]
theorem mv_at {m : Mv} (ho : MvOk 1000 m) {i : Nat} {x : V} {z : Str} (h1 : (mvals m)[i]? = some x) (h2 : (mparts m)[i]? = some z) {H : Hp} {Q : VK} (q : Q (.str z) H) : rStrX [x] H Q := by
  have sm : ∀ p : Nat, p < 1000 → ((p : Int)).natAbs.log2 < 1920 := fun p hp => log_small (by show p < _; omega)
  cases m with
  | take p =>
    match i, h1, h2 with
    | 0, h1, h2 => cases h1; cases h2; exact .inr ⟨_, rfl, q⟩
    | 1, h1, h2 => cases h1; cases h2; exact .inl ⟨_, rfl, sm p ho, q⟩
  | move s p =>
    match i, h1, h2 with
    | 0, h1, h2 => cases h1; cases h2; exact .inr ⟨_, rfl, q⟩
    | 1, h1, h2 => cases h1; cases h2; exact .inl ⟨_, rfl, sm s ho.1, q⟩
    | 2, h1, h2 => cases h1; cases h2; exact .inl ⟨_, rfl, sm p ho.2, q⟩
  | lay p =>
    match i, h1, h2 with
    | 0, h1, h2 => cases h1; cases h2; exact .inr ⟨_, rfl, q⟩
    | 1, h1, h2 => cases h1; cases h2; exact .inl ⟨_, rfl, sm p ho, q⟩
theorem mparts_len {m : Mv} (ho : MvOk 1000 m) : (mparts m).length = (mvals m).length ∧ (mparts m).length ≤ 3 ∧ ∀ z ∈ mparts m, z.length ≤ 19 := by
  have sm : ∀ p : Nat, p < 1000 → (iw (p : Int)).length ≤ 19 := fun p hp => (iw_int (n := (p : Int)) (by show p < _; omega)).2
  have w1 : ("take" : Str).length ≤ 19 := by decide
  have w2 : ("move" : Str).length ≤ 19 := by decide
  have w3 : ("lay" : Str).length ≤ 19 := by decide
  cases m with
  | take p =>
    refine ⟨rfl, (by show 2 ≤ 3; decide), fun z hz => ?_⟩
    simp only [mparts, List.mem_cons, List.not_mem_nil, or_false] at hz
    rcases hz with rfl | rfl
    · exact w1
    · exact sm p ho
  | move s p =>
    refine ⟨rfl, Nat.le_refl _, fun z hz => ?_⟩
    simp only [mparts, List.mem_cons, List.not_mem_nil, or_false] at hz
    rcases hz with rfl | rfl | rfl
    · exact w2
    · exact sm s ho.1
    · exact sm p ho.2
  | lay p =>
    refine ⟨rfl, (by show 2 ≤ 3; decide), fun z hz => ?_⟩
    simp only [mparts, List.mem_cons, List.not_mem_nil, or_false] at hz
    rcases hz with rfl | rfl
    · exact w3
    · exact sm p ho
theorem sc_move_word : FnScope ["move", "part"] ["move"] (defScope s_move_word) := ⟨rfl, rfl, rfl, by decide +kernel, rfl, by decide +kernel, by decide +kernel⟩
theorem cal_move_word (t : Ctx K mg base T) : Cal P w K mg base 1 "move_word" ["move"] (sp_move_word K T) := by
  refine cal_of t.d_move_word t.g_move_word sc_move_word (fun _ _ _ _ _ _ us hl => match us, hl with | [_], _ => rfl) (fun vs H Q E h => ?_) (fun cdv A outer s H vs Q E hr h => ?_)
  · obtain ⟨G, l, v, m, rfl, _⟩ := h
    rfl
  · obtain ⟨G, l, v, m, rfl, O, hv, ho, q⟩ := h
    refine ⟨_, (pss_one (ps_ret (joinK pe_str (pe_lc (own := [("part", 1)]) (g := gName 1) (tt := tYes) (by rfl) sc_move_word.nd (piT (pv 0)) (blkOk_by (own := [("part", 1)]) (N := ["move", "part"]) (sc := defScope s_move_word) (by decide +kernel)) (fun _ _ _ _ _ => (pg_name (i := 1) sc_move_word.nd rfl (.inl rfl))) (fun _ _ _ _ _ => pts_nil) (fun _ _ _ _ _ => (pe_callTy strX (by rfl) t.str (by decide +kernel) (pa_cons (pv 1) pa_nil))))))), ?_⟩
    obtain ⟨tm, rfl, ht⟩ : ∃ tm, v = .ref tm ∧ SqT K G tm (mvals m) := by cases m <;> exact hv
    obtain ⟨hl1, hl2, hl3⟩ := mparts_len ho
    have l1 : (" " : Str).length = 1 := by decide
    refine ⟨⟨_, rfl⟩, .ref tm, rfl, tm, rfl, ⟨_, O.tup ht⟩, fun D nD => lc_valS [some (.ref tm), none] rfl (ys := mparts m) walk_tup O nD hl1 (by omega) V.str (fun H' s => Same.tup s ht) (fun i x z H1 H2 acc Qc hi ez O2 hy hQ => ?_) (fun H1 O1 => ?_)⟩
    · obtain ⟨rfl, hy⟩ := hy
      exact ⟨rfl, x, rfl, mv_at ho hy ez (hQ _ O2)⟩
    · have hsum := len_sum hl3
      exact ⟨_, D, mparts m, rfl, rfl, .inl (.inl O1.l0), by rw [l1]; omega, q _ O1.drop⟩
end
end Fs

set_option maxHeartbeats 4000000
/-! Reading a text of rows. -/
namespace Fs
open PySem PySem.Spec PyProof.Rows L2
inductive Op
  | row (ks : List Ky)
  | pour (ks : List Ky)
  | sort (w : Str)
  | ask (w : Str)
def Op.w : Op → Str
  | .row _ => "row"
  | .pour _ => "pour"
  | .sort _ => "sort"
  | .ask w => w
def Op.args : Op → List Str
  | .row ks => ks.map kwd
  | .pour ks => ks.map kwd
  | .sort w => [w]
  | .ask _ => []
def opw (op : Op) : List Str := op.w :: op.args
def pn : Op → Nat
  | .pour ks => ks.length
  | _ => 0
abbrev Ask (w : Str) : Prop := w = "order" ∨ w = "back" ∨ w = "rings" ∨ w = "walk" ∨ w = "poured" ∨ w = "heaps"
abbrev Way (w : Str) : Prop := w = "last" ∨ w = "first" ∨ w = "runs"
def OpOk (kd : Kd) : Op → Prop
  | .row ks => (∀ k ∈ ks, KyOk kd k) ∧ ks.length ≤ 200
  | .pour ks => (∀ k ∈ ks, KyOk kd k) ∧ 1 ≤ ks.length ∧ ks.length ≤ 200
  | .sort w => Way w
  | .ask w => Ask w
def TakenV (K : PySem.W.Frag) (G : Hp) (v : V) (op : Op) : Prop := ∃ t p us, v = .ref t ∧ SqT K G t [.str op.w, .ref p] ∧ G p = some (.lst us) ∧ (match op with
  | .row ks => Keys K G us ks
  | .pour ks => Keys K G us ks
  | .sort w => us = [.str w]
  | .ask _ => True)
theorem TakenV.up {K : PySem.W.Frag} {G G' : Hp} (s : Same G G') {v : V} {op : Op} (h : TakenV K G v op) : TakenV K G' v op := by
  obtain ⟨t, p, us, e, h1, h2, h3⟩ := h
  refine ⟨t, p, us, e, Same.tup s h1, s _ _ h2, ?_⟩
  cases op with
  | row ks => exact Keys.up s h3
  | pour ks => exact Keys.up s h3
  | sort w => exact h3
  | ask w => exact h3
def kdat : Ky → PyData
  | .num n => .int n
  | .prt a b => .tuple [.int a, .int (b : Int)]
  | .txt z => .str z
theorem Each.head {α : Type} {R : V → α → Prop} {v : V} {vs : List V} {x : α} {xs : List α} (h : Each R (v :: vs) (x :: xs)) : R v x ∧ Each R vs xs :=
  ⟨h.2 0 v x rfl rfl, by simpa using h.1, fun i u y a b => h.2 (i + 1) u y a b⟩
theorem keys_dp {K : PySem.W.Frag} {H : Hp} : ∀ {us : List V} {ks : List Ky}, Keys K H us ks → DpAll K H us (ks.map kdat)
  | [], [], _ => .nil
  | [], _ :: _, h => by cases h.1
  | _ :: _, [], h => by cases h.1
  | v :: us, k :: ks, h => by
    obtain ⟨h1, h2⟩ := h.head
    refine .cons ?_ (keys_dp h2)
    cases k with
    | num n => obtain rfl : v = _ := h1; exact .int n
    | prt a b => obtain ⟨t, rfl, ht⟩ := h1; exact .tup ht (.cons (.int _) (.cons (.int _) .nil))
    | txt z => obtain rfl : v = _ := h1; exact .str z
theorem kdat_plain : ∀ ks : List Ky, PyData.plainAll (ks.map kdat) = true
  | [] => by simp [PyData.plainAll]
  | k :: ks => by
    have := kdat_plain ks
    cases k <;> simp [kdat, PyData.plainAll, PyData.plain, this]
theorem kdat_none (ks : List Ky) : ((ks.map kdat).any fun y => PyData.eqv y .none) = false := by
  rw [List.any_map, List.any_eq_false]
  intro k _
  cases k <;> simp [kdat, PyData.eqv]
section
variable {P : Program} {w : World} {K : PySem.W.Frag} {mg : Str → Option Value} {base : Heap} {T : TL}
abbrev rdO (K : PySem.W.Frag) (dx : Addr) (k b : V) (p : Addr) (n : Nat) : HO := .ins (He.ga K "Reading") dx [("kind", k), ("base", b), ("taken", .ref p), ("poured", nv n)]
def sp_Reading___init__ (K : PySem.W.Frag) (T : TL) : Sp := fun vs H Q _ => ∃ (G : Hp) (l : List (Addr × HO)) (x dx : Addr), vs = [.ref x] ∧ Own T G H ((x, .ins (He.ga K "Reading") dx []) :: l) ∧
  ∀ H' p, Own T G H' ((x, rdO K dx .non .non p 0) :: (p, .lst []) :: l) → Q .non H'
theorem sc_Reading___init__ : FnScope ["self"] ["self"] (defScope s_Reading___init__) := ⟨rfl, rfl, rfl, by decide +kernel, rfl, by decide +kernel, by decide +kernel⟩
theorem kcal_Reading (t : Ctx K mg base T) : KCal P w K mg base 1 (He.ga K "Reading") "Reading" ["self"] (sp_Reading___init__ K T) := by
  refine kcal_of t.d_Reading___init__ t.g_Reading t.mk_Reading sc_Reading___init__ (fun _ _ _ _ _ _ us hl => match us, hl with | [_], _ => rfl) (fun vs H Q E h => ?_) (fun cdv A outer s H vs Q E hr h => ?_)
  · obtain ⟨G, l, x, dx, rfl, _⟩ := h
    rfl
  · obtain ⟨G, l, x, dx, rfl, O, q⟩ := h
    refine ⟨_, (pss_cons (ps_fld (pv 0) pe_non rfl)
      (pss_cons (ps_fld (pv 0) pe_non rfl)
      (pss_cons (ps_fld (pv 0) (pe_lst pa_nil) rfl)
      (pss_one (ps_fld (pv 0) pe_int rfl))))), ?_⟩
    refine ⟨.ref x, rfl, x, _, dx, _, rfl, O.l0, t.k_Reading, t.n_Reading_kind, (by show 0 < 1000; decide), ?_⟩
    have O1 := own_set (o' := .ins (He.ga K "Reading") dx [("kind", .non)]) O 0 rfl
    refine ⟨.ref x, rfl, x, _, dx, _, rfl, O1.l0, t.k_Reading, t.n_Reading_base, (by show 1 < 1000; decide), ?_⟩
    have O2 := own_set (o' := .ins (He.ga K "Reading") dx [("kind", .non), ("base", .non)]) O1 0 rfl
    refine ⟨Nat.zero_le _, fun p n1 => ?_⟩
    have O3 := own_new (o := .lst []) O2 n1
    refine ⟨.ref x, rfl, x, _, dx, _, rfl, O3.l1, t.k_Reading, t.n_Reading_taken, (by show 2 < 1000; decide), ?_⟩
    have O4 := own_set (o' := .ins (He.ga K "Reading") dx [("kind", .non), ("base", .non), ("taken", .ref p)]) O3 1 rfl
    refine ⟨.ref x, rfl, x, _, dx, _, rfl, O4.l1, t.k_Reading, t.n_Reading_poured, (by show 3 < 1000; decide), ?_⟩
    have O5 := own_set (o' := rdO K dx .non .non p 0) O4 1 rfl
    exact q _ p O5.swap
def sp_Reading_take_kind (K : PySem.W.Frag) (T : TL) : Sp := fun vs H Q _ => ∃ (G : Hp) (l : List (Addr × HO)) (x dx p wa : Addr) (n b : Nat) (kd : Kd), vs = [.ref x, .ref wa] ∧ Own T G H ((x, rdO K dx .non .non p n) :: l) ∧ SL K G wa ["kind", kd.s, iw (b : Int)] ∧ 2 ≤ b ∧ b ≤ 64 ∧
  ∀ H', Own T G H' ((x, rdO K dx (.str kd.s) (nv b) p n) :: l) → Q (.bl true) H'
theorem sc_Reading_take_kind : FnScope ["self", "words"] ["self", "words"] (defScope s_Reading_take_kind) := ⟨rfl, rfl, rfl, by decide +kernel, rfl, by decide +kernel, by decide +kernel⟩
theorem mcal_Reading_take_kind (t : Ctx K mg base T) : MCal P w K mg base 3 (He.ga K "Reading") "take_kind" ["self", "words"] (sp_Reading_take_kind K T) := by
  refine mcal_of t.d_Reading_take_kind t.k_Reading t.m_Reading_take_kind sc_Reading_take_kind (fun _ _ _ _ _ _ us hl => match us, hl with | [_, _], _ => rfl) (fun vs H Q E h => ?_) (fun cdv A outer s H vs Q E hr h => ?_)
  · obtain ⟨G, l, x, dx, p, wa, n, b, kd, rfl, _⟩ := h
    rfl
  · obtain ⟨G, l, x, dx, p, wa, n, b, kd, rfl, O, hw, hb, hb2, q⟩ := h
    refine ⟨_, (pss_cons (ps_if (PW.pt (pw_or (pt_cmpR op_ne (pe_callB lenK (by rfl) t.len (by decide +kernel) (pa_cons (pv 1) pa_nil)) pe_int (nomark _)) (pw_or (pt_cmpR op_ne (pe_ix ixL (pv 1) pe_int (fun _ _ => rfl)) pe_str (nomark _)) (pw_or1 (pt_cmpR op_notIn_seq (pe_ix ixL (pv 1) pe_int (fun _ _ => rfl)) (pe_gr t.c_KINDS) (by rfl))))))
        (pss_one (ps_ret pe_bl))
        pss_nil)
      (pss_cons (ps_if (pt_not (pt_val (pe_cal (cal_is_between t) hr (pa_cons (pe_ix ixL (pv 1) pe_int (fun _ _ => rfl)) (pa_cons (pe_gi t.c_LEAST_BASE) (pa_cons (pe_gi t.c_MOST_BASE) pa_nil))))))
        (pss_one (ps_ret pe_bl))
        pss_nil)
      (pss_cons (ps_fld (pv 0) (pe_ix ixL (pv 1) pe_int (fun _ _ => rfl)) rfl)
      (pss_cons (ps_fld (pv 0) (pe_callTy call_int_str (by rfl) t.int (by decide +kernel) (pa_cons (pe_ix ixL (pv 1) pe_int (fun _ _ => rfl)) pa_nil)) rfl)
      (pss_one (ps_ret pe_bl)))))), ?_⟩
    obtain ⟨kb, lb⟩ := iw_int (n := (b : Int)) (by show b < _; omega)
    refine ⟨.ref wa, rfl, wa, _, rfl, .inl (O.seq hw), rfl, _, rfl, ?_⟩
    rw [decide_eq_true (by rfl)]
    refine iteF ⟨.ref wa, rfl, wa, _, _, _, rfl, rfl, O.seq hw, atI_nat (j := 0) rfl, rfl, _, rfl, ?_⟩
    rw [decide_eq_true (by rfl)]
    refine iteF ⟨.ref wa, rfl, wa, _, _, _, rfl, rfl, O.seq hw, atI_nat (j := 1) rfl, _, _, rfl, .inr (t.q_KINDS _), rfl, rfl, _, rfl, ?_⟩
    have ek : inV (V.str kd.s) [.str "number", .str "part", .str "text"] = true := by cases kd <;> decide
    rw [ek]
    refine iteF ⟨.ref wa, rfl, wa, _, _, _, rfl, rfl, O.seq hw, atI_nat (j := 2) rfl, G, _, b, 2, 64, rfl, O, by omega, hb, hb2, fun H2 O2 => ⟨true, rfl, iteF ?_⟩⟩
    refine ⟨.ref wa, rfl, wa, _, _, _, rfl, rfl, O2.seq hw, atI_nat (j := 1) rfl, .ref x, rfl, x, _, dx, _, rfl, O2.l0, t.k_Reading, t.n_Reading_kind, (by show 4 < 1000; decide), ?_⟩
    have O3 := own_set (o' := rdO K dx (.str kd.s) .non p n) O2 0 rfl
    refine ⟨.ref wa, rfl, wa, _, _, _, rfl, rfl, O3.seq hw, atI_nat (j := 2) rfl, _, _, rfl, kb, by omega, .ref x, rfl, x, _, dx, _, rfl, O3.l0, t.k_Reading, t.n_Reading_base, (by show 4 < 1000; decide), ?_⟩
    exact q _ (own_set (o' := rdO K dx (.str kd.s) (nv b) p n) O3 0 rfl)
def sp_Reading_take_keys (K : PySem.W.Frag) (T : TL) : Sp := fun vs H Q _ => ∃ (G : Hp) (l : List (Addr × HO)) (x dx p wa : Addr) (kd : Kd) (b : V) (n : Nat) (tv : List V) (op : Op) (ks : List Ky), vs = [.ref x, .ref wa] ∧ Own T G H ((x, rdO K dx (.str kd.s) b p n) :: (p, .lst tv) :: l) ∧ (op = .row ks ∨ op = .pour ks) ∧ SL K G wa (opw op) ∧ OpOk kd op ∧ n + pn op ≤ 200 ∧ tv.length ≤ 1000 ∧
  ∀ G' H' v, Same G G' → Own T G' H' ((x, rdO K dx (.str kd.s) b p (n + pn op)) :: (p, .lst (tv ++ [v])) :: l) → TakenV K G' v op → Q (.bl true) H'
theorem sc_Reading_take_keys : FnScope ["self", "words", "keys", "word"] ["self", "words"] (defScope s_Reading_take_keys) := ⟨rfl, rfl, rfl, by decide +kernel, rfl, by decide +kernel, by decide +kernel⟩
theorem mcal_Reading_take_keys (t : Ctx K mg base T) : MCal P w K mg base 5 (He.ga K "Reading") "take_keys" ["self", "words"] (sp_Reading_take_keys K T) := by
  refine mcal_of t.d_Reading_take_keys t.k_Reading t.m_Reading_take_keys sc_Reading_take_keys (fun _ _ _ _ _ _ us hl => match us, hl with | [_, _], _ => rfl) (fun vs H Q E h => ?_) (fun cdv A outer s H vs Q E hr h => ?_)
  · obtain ⟨G, l, x, dx, p, wa, kd, b, n, tv, op, ks, rfl, _⟩ := h
    rfl
  · obtain ⟨G, l, x, dx, p, wa, kd, b, n, tv, op, ks, rfl, O, ho, hw, hk, hn, ht, q⟩ := h
    have hu := hu_of hr
    have hu64 := hr.units
    refine ⟨_, (pss_cons (ps_setLc (i := 2) (own := [("word", 3)]) (g := gName 3) (by rfl) sc_Reading_take_keys.nd rfl rfl (sw_true rfl rfl rfl (by decide +kernel)) (piL (pe_slice slL (pv 1) (po_some pe_int) po_none)) (blkOk_by (own := [("word", 3)]) (N := ["self", "words", "keys", "word"]) (sc := defScope s_Reading_take_keys) (by decide +kernel)) (fun _ _ _ _ _ => (pg_name (i := 3) sc_Reading_take_keys.nd rfl (.inl rfl))) (fun _ _ _ _ _ => pts_nil) (fun _ _ _ _ _ => (pe_cal (cal_key_read t) hr (pa_cons (fldK (pv 0) (by rfl)) (pa_cons (pv 3) pa_nil)))))
      (pss_cons (ps_if (PW.pt (pw_or (pt_cmpR (inDK hu64) pe_non (pv 2) (by rfl)) (pw_or1 (pt_cmpR op_gt (pe_callB lenK (by rfl) t.len (by decide +kernel) (pa_cons (pv 2) pa_nil)) (pe_gi t.c_MOST_KEYS) (nomark _)))))
        (pss_one (ps_ret pe_bl))
        pss_nil)
      (pss_cons (ps_if (pt_cmpR op_eq (pe_ix ixL (pv 1) pe_int (fun _ _ => rfl)) pe_str (nomark _))
        (pss_cons (ps_fldaug (pv 0) (pe_callB lenK (by rfl) t.len (by decide +kernel) (pa_cons (pv 2) pa_nil)) in_add)
        (pss_one (ps_if (PW.pt (pw_or (pt_cmpR op_eq (pe_callB lenK (by rfl) t.len (by decide +kernel) (pa_cons (pv 2) pa_nil)) pe_int (nomark _)) (pw_or1 (pt_cmpR op_gt (fldK (pv 0) (by rfl)) (pe_gi t.c_MOST_KEYS) (nomark _)))))
          (pss_one (ps_ret pe_bl))
          pss_nil)))
        pss_nil)
      (pss_cons (ps_expr (bmK PySem.F.plainAttrs_list PySem.F.slot_list_append PySem.F.type_list_append mt_append (fldK (pv 0) (by rfl)) (pa_cons (pe_tup (pa_cons (pe_ix ixL (pv 1) pe_int (fun _ _ => rfl)) (pa_cons (pv 2) pa_nil))) pa_nil)))
      (pss_one (ps_ret pe_bl)))))), ?_⟩
    have hok : (∀ k ∈ ks, KyOk kd k) ∧ ks.length ≤ 200 := by rcases ho with rfl | rfl; exact hk; exact ⟨hk.1, hk.2.2⟩
    have ew : opw op = op.w :: ks.map kwd := by rcases ho with rfl | rfl <;> rfl
    rw [ew] at hw
    refine ⟨.ref wa, rfl, _, rfl, wa, _, rfl, O.seq hw, fun ps ns => ?_⟩
    have ec : cutV ((op.w :: ks.map kwd).map V.str) (some 1) none = (ks.map kwd).map V.str := by rw [cut_one]; rfl
    rw [ec]
    have O1 := own_new (o := .lst ((ks.map kwd).map V.str)) O ns
    have s1 := O1.gup
    have O1 := O1.frz
    have hps : SL K (upd G ps (.lst ((ks.map kwd).map V.str))) ps (ks.map kwd) := .inl (.inl upd_same)
    generalize upd G ps (.lst ((ks.map kwd).map V.str)) = G1 at s1 O1 hps
    refine ⟨ps, rfl, ⟨_, O1.seq hps⟩, fun D nD => lc_ownS [some (.ref x), some (.ref wa), none, none] rfl (ys := ks) walk_list O1 nD (by simp) (by simp; omega) (R := fun G v k => KeyV K G v k ∧ v ≠ .non) (fun _ _ _ _ s h => ⟨KeyV.up s h.1, h.2⟩) (fun H' s' => s'.seq hps) (fun i v k G2 H2 H3 acc Qc hi ek s2 O2 hy hQ => ?_) (fun G3 H3 us s3 O3 hE => ?_)⟩
    · obtain ⟨rfl, hy⟩ := hy
      obtain ⟨z, ez, rfl⟩ := map_at hy
      obtain rfl : z = kwd k := by
        rw [List.getElem?_map, ek] at ez
        exact (Option.some.inj ez).symm
      exact ⟨rfl, .ref x, rfl, x, _, dx, _, .str kd.s, rfl, O2.l1, t.k_Reading, t.n_Reading_kind, rfl, .str (kwd k), rfl, G2, _, kd, k, rfl, O2, hok.1 k (List.mem_of_getElem? ek), fun G4 H4 v s4 O4 h1 h2 => hQ v G4 H4 s4 O4 ⟨h1, h2⟩⟩
    have hKeys : Keys K G3 us ks := hE.mono fun _ _ h => h.1
    have hul : us.length = ks.length := hE.1
    have s4 := O3.gup
    have O4 := O3.frz
    have hD' : (upd G3 D (.lst us)) D = some (.lst us) := upd_same
    have hD : SqL K (upd G3 D (.lst us)) D us := .inl (.inl upd_same)
    have hK4 := hKeys.up s4
    generalize upd G3 D (.lst us) = G4 at s4 O4 hD hD' hK4
    have hw4 : SL K G4 wa (op.w :: ks.map kwd) := s4.seq (s3.seq (s1.seq hw))
    refine ⟨.ref D, rfl, .none, ks.map kdat, .non, .lst (O4.seq hD) (keys_dp (hK4.up O4.sub)), kdat_plain ks, rfl, by decide, _, rfl, ?_⟩
    rw [kdat_none]
    refine iteF ⟨.ref D, rfl, D, us, rfl, .inl (O4.seq hD), _, _, rfl, rfl, _, rfl, ?_⟩
    rw [decide_eq_false (show ¬ (200 : Int) < (us.length : Int) by omega)]
    refine iteF ?_
    have fin : ∀ (H' : Hp) (m : Nat) (σ3 : Option V), n + pn op = m → Own T G4 H' ((x, rdO K dx (.str kd.s) b p m) :: (p, .lst tv) :: l) → tSeq (tDrop (tBM K "list" rAppend (tFld K (tVar 0) "taken") (tCons (tTup (tCons (tOp (rIxL K) (tVar 1) (tC (.int 0))) (tCons (tVar 2) tNil))) tNil))) (tRet (tC (.bl true))) { nx := fun _ H' => Q .non H', rt := Q } [some (.ref x), some (.ref wa), some (.ref D), σ3] H' := by
      intro H' m σ3 hm O5
      refine ⟨.ref x, rfl, x, _, dx, _, .ref p, rfl, O5.l0, t.k_Reading, t.n_Reading_taken, rfl, .inl ⟨rfl, _, .inl (.inl O5.l1)⟩, .ref wa, rfl, wa, _, _, _, rfl, rfl, O5.seq hw4, atI_nat (j := 0) rfl, .ref D, rfl, two_ok, fun tp ntp => ?_⟩
      have O6 := own_new (o := .tup [.str op.w, .ref D]) O5 ntp
      have s6 := O6.gup
      refine ⟨p, tv, _, rfl, rfl, O6.l2, sz' (by omega), ?_⟩
      have O7 := own_set (o' := .lst (tv ++ [V.ref tp])) O6.frz 1 rfl
      subst hm
      refine q _ _ (.ref tp) ((s1.trans s3).trans (s4.trans s6)) O7 ⟨tp, D, us, rfl, .inl (.inl upd_same), s6 _ _ hD', ?_⟩
      rcases ho with rfl | rfl
      · exact hK4.up s6
      · exact hK4.up s6
    refine ⟨.ref wa, rfl, wa, _, _, _, rfl, rfl, O4.seq hw4, atI_nat (j := 0) rfl, rfl, _, rfl, ?_⟩
    rcases ho with rfl | rfl
    · rw [decide_eq_false (show ¬ V.str (Op.row ks).w = V.str ("pour" : Str) from (by decide : ¬ V.str ("row" : Str) = V.str ("pour" : Str)))]
      exact iteF (fin _ n _ rfl O4)
    · rw [decide_eq_true (by rfl : V.str (Op.pour ks).w = V.str ("pour" : Str))]
      refine iteT ⟨.ref x, rfl, x, _, dx, _, nv n, rfl, O4.l0, t.k_Reading, t.n_Reading_poured, rfl, .ref D, rfl, D, us, rfl, .inl (O4.seq hD), _, _, rfl, rfl, dx, _, O4.l0, (by show 4 < 1000; decide), ?_⟩
      rw [show V.int ((n : Int) + (us.length : Nat)) = nv (n + ks.length) by rw [hul]; rfl]
      have O5 := own_set (o' := rdO K dx (.str kd.s) b p (n + ks.length)) O4 0 rfl
      have hn : n + ks.length ≤ 200 := hn
      have h1 : 1 ≤ ks.length := hk.2.1
      refine ⟨.ref D, rfl, D, us, rfl, .inl (O5.seq hD), rfl, _, rfl, ?_⟩
      rw [decide_eq_false (fun h => by injection h with h; omega)]
      refine iteF ⟨.ref x, rfl, x, _, dx, _, nv (n + ks.length), rfl, O5.l0, t.k_Reading, t.n_Reading_poured, rfl, _, _, rfl, rfl, _, rfl, ?_⟩
      rw [decide_eq_false (show ¬ (200 : Int) < ((n + ks.length : Nat) : Int) by omega)]
      exact iteF (fin _ _ _ rfl O5)
def sp_Reading_take_ask (K : PySem.W.Frag) (T : TL) : Sp := fun vs H Q _ => ∃ (G : Hp) (l : List (Addr × HO)) (x dx p wa : Addr) (k b : V) (n : Nat) (tv : List V) (op : Op), vs = [.ref x, .ref wa] ∧ Own T G H ((x, rdO K dx k b p n) :: (p, .lst tv) :: l) ∧ ((∃ z, op = .sort z ∧ Way z) ∨ ∃ z, op = .ask z ∧ Ask z) ∧ SL K G wa (opw op) ∧ tv.length ≤ 1000 ∧
  ∀ G' H' v, Same G G' → Own T G' H' ((x, rdO K dx k b p n) :: (p, .lst (tv ++ [v])) :: l) → TakenV K G' v op → Q (.bl true) H'
theorem sc_Reading_take_ask : FnScope ["self", "words", "right"] ["self", "words"] (defScope s_Reading_take_ask) := ⟨rfl, rfl, rfl, by decide +kernel, rfl, by decide +kernel, by decide +kernel⟩
theorem mcal_Reading_take_ask (t : Ctx K mg base T) : MCal P w K mg base 1 (He.ga K "Reading") "take_ask" ["self", "words"] (sp_Reading_take_ask K T) := by
  refine mcal_of t.d_Reading_take_ask t.k_Reading t.m_Reading_take_ask sc_Reading_take_ask (fun _ _ _ _ _ _ us hl => match us, hl with | [_, _], _ => rfl) (fun vs H Q E h => ?_) (fun cdv A outer s H vs Q E hr h => ?_)
  · obtain ⟨G, l, x, dx, p, wa, k, b, n, tv, op, rfl, _⟩ := h
    rfl
  · obtain ⟨G, l, x, dx, p, wa, k, b, n, tv, op, rfl, O, ho, hw, ht, q⟩ := h
    refine ⟨_, (pss_cons (ps_set (i := 2) sc_Reading_take_ask.nd rfl (.inl rfl) (pe_and (pe_cmpR op_eq (pe_callB lenK (by rfl) t.len (by decide +kernel) (pa_cons (pv 1) pa_nil)) pe_int (nomark _)) (pe_one (pe_cmpR inSeq (pe_ix ixL (pv 1) pe_int (fun _ _ => rfl)) (pe_gr t.c_ASKS) (by rfl)))))
      (pss_cons (ps_if (pt_cmpR op_eq (pe_ix ixL (pv 1) pe_int (fun _ _ => rfl)) pe_str (nomark _))
        (pss_one (ps_set (i := 2) sc_Reading_take_ask.nd rfl (.inl rfl) (pe_and (pe_cmpR op_eq (pe_callB lenK (by rfl) t.len (by decide +kernel) (pa_cons (pv 1) pa_nil)) pe_int (nomark _)) (pe_one (pe_cmpR inSeq (pe_ix ixL (pv 1) pe_int (fun _ _ => rfl)) (pe_gr t.c_WAYS) (by rfl))))))
        pss_nil)
      (pss_cons (ps_expr (bmK PySem.F.plainAttrs_list PySem.F.slot_list_append PySem.F.type_list_append mt_append (fldK (pv 0) (by rfl)) (pa_cons (pe_tup (pa_cons (pe_ix ixL (pv 1) pe_int (fun _ _ => rfl)) (pa_cons (pe_slice slL (pv 1) (po_some pe_int) po_none) pa_nil))) pa_nil)))
      (pss_one (ps_ret (pv 2)))))), ?_⟩
    have fin : ∀ σ2, σ2 = some (V.bl true) → tSeq (tDrop (tBM K "list" rAppend (tFld K (tVar 0) "taken") (tCons (tTup (tCons (tOp (rIxL K) (tVar 1) (tC (.int 0))) (tCons (tSl (rSlL K) (tVar 1) (tPart (tC (.int 1))) tNoPart) tNil))) tNil))) (tRet (tVar 2)) { nx := fun _ H' => Q .non H', rt := Q } [some (.ref x), some (.ref wa), σ2] H := by
      intro σ2 h2
      subst h2
      refine ⟨.ref x, rfl, x, _, dx, _, .ref p, rfl, O.l0, t.k_Reading, t.n_Reading_taken, rfl, .inl ⟨rfl, _, .inl (.inl O.l1)⟩, .ref wa, rfl, wa, _, _, _, rfl, rfl, O.seq hw, atI_nat (j := 0) rfl, .ref wa, rfl, _, rfl, wa, _, rfl, O.seq hw, fun ps ns => ?_⟩
      rw [cut_one]
      have O1 := own_new (o := .lst (((opw op).map V.str).drop 1)) O ns
      have O2 := O1.frz
      refine ⟨two_ok, fun tp ntp => ?_⟩
      have O3 := own_new (o := .tup [.str op.w, .ref ps]) O2 ntp
      have s3 := O1.gup.trans O3.gup
      refine ⟨p, tv, _, rfl, rfl, O3.l2, sz' (by omega), .bl true, rfl, ?_⟩
      have O4 := own_set (o' := .lst (tv ++ [V.ref tp])) O3.frz 1 rfl
      refine q _ _ (.ref tp) s3 O4 ⟨tp, ps, ((opw op).map V.str).drop 1, rfl, .inl (.inl upd_same), O3.gup _ _ upd_same, ?_⟩
      rcases ho with ⟨z, rfl, _⟩ | ⟨z, rfl, _⟩
      · rfl
      · trivial
    refine ⟨.ref wa, rfl, wa, _, rfl, .inl (O.seq hw), rfl, _, rfl, ?_⟩
    rcases ho with ⟨z, rfl, hz⟩ | ⟨z, rfl, hz⟩
    · rw [decide_eq_false (show ¬ V.int (((opw (Op.sort z)).map V.str).length : Nat) = V.int 1 from (by decide : ¬ V.int 2 = V.int 1))]
      refine iteF ?_
      refine ⟨.ref wa, rfl, wa, _, _, _, rfl, rfl, O.seq hw, atI_nat (j := 0) rfl, rfl, _, rfl, ?_⟩
      rw [decide_eq_true (by rfl : V.str (Op.sort z).w = V.str ("sort" : Str))]
      refine iteT ⟨.ref wa, rfl, wa, _, rfl, .inl (O.seq hw), rfl, _, rfl, ?_⟩
      rw [decide_eq_true (by rfl)]
      refine iteT ⟨.ref wa, rfl, wa, _, _, _, rfl, rfl, O.seq hw, atI_nat (j := 1) rfl, _, _, rfl, .inr (t.q_WAYS _), rfl, rfl, ?_⟩
      have e : inV (V.str z) [.str "last", .str "first", .str "runs"] = true := by rcases hz with rfl | rfl | rfl <;> decide
      rw [e]
      exact fin _ rfl
    · rw [decide_eq_true (by rfl : V.int (((opw (Op.ask z)).map V.str).length : Nat) = V.int 1)]
      refine iteT ⟨.ref wa, rfl, wa, _, _, _, rfl, rfl, O.seq hw, atI_nat (j := 0) rfl, _, _, rfl, .inr (t.q_ASKS _), rfl, rfl, ?_⟩
      have e : inV (V.str (Op.ask z).w) [.str "order", .str "back", .str "rings", .str "ahead", .str "cheapest", .str "walk", .str "puts", .str "poured", .str "heaps"] = true := by rcases hz with rfl | rfl | rfl | rfl | rfl | rfl <;> decide
      rw [e]
      refine ⟨.ref wa, rfl, wa, _, _, _, rfl, rfl, O.seq hw, atI_nat (j := 0) rfl, rfl, _, rfl, ?_⟩
      rw [decide_eq_false (by rcases hz with rfl | rfl | rfl | rfl | rfl | rfl <;> decide : ¬ V.str (Op.ask z).w = V.str ("sort" : Str))]
      exact iteF (fin _ rfl)
def sp_Reading_take (K : PySem.W.Frag) (T : TL) : Sp := fun vs H Q _ => ∃ (G : Hp) (l : List (Addr × HO)) (x dx p wa : Addr) (m : V) (kd : Kd) (b : Nat) (n : Nat) (tv : List V) (op : Option Op), vs = [.ref x, .ref wa, m] ∧ (match op with
  | none => Own T G H ((x, rdO K dx .non .non p n) :: (p, .lst tv) :: l) ∧ SL K G wa ["kind", kd.s, iw (b : Int)] ∧ 2 ≤ b ∧ b ≤ 64 ∧ ∀ H', Own T G H' ((x, rdO K dx (.str kd.s) (nv b) p n) :: (p, .lst tv) :: l) → Q .non H'
  | some op => Own T G H ((x, rdO K dx (.str kd.s) (nv b) p n) :: (p, .lst tv) :: l) ∧ SL K G wa (opw op) ∧ OpOk kd op ∧ n + pn op ≤ 200 ∧ tv.length ≤ 1000 ∧
    ∀ G' H' v, Same G G' → Own T G' H' ((x, rdO K dx (.str kd.s) (nv b) p (n + pn op)) :: (p, .lst (tv ++ [v])) :: l) → TakenV K G' v op → Q .non H')
theorem sc_Reading_take : FnScope ["self", "words", "number", "right"] ["self", "words", "number"] (defScope s_Reading_take) := ⟨rfl, rfl, rfl, by decide +kernel, rfl, by decide +kernel, by decide +kernel⟩
theorem mcal_Reading_take (t : Ctx K mg base T) : MCal P w K mg base 6 (He.ga K "Reading") "take" ["self", "words", "number"] (sp_Reading_take K T) := by
  refine mcal_of t.d_Reading_take t.k_Reading t.m_Reading_take sc_Reading_take (fun _ _ _ _ _ _ us hl => match us, hl with | [_, _, _], _ => rfl) (fun vs H Q E h => ?_) (fun cdv A outer s H vs Q E hr h => ?_)
  · obtain ⟨G, l, x, dx, p, wa, m, kd, b, n, tv, op, rfl, _⟩ := h
    rfl
  · obtain ⟨G, l, x, dx, p, wa, m, kd, b, n, tv, op, rfl, h⟩ := h
    refine ⟨_, (pss_cons (ps_if (pt_cmpR op_isN (fldK (pv 0) (by rfl)) pe_non (nomark _))
        (pss_one (ps_set (i := 3) sc_Reading_take.nd rfl (.inl rfl) (pe_mcal (pv 0) (mcal_Reading_take_kind t) hr (pa_cons (pv 1) pa_nil))))
        (pss_one (ps_if (pt_cmpR inSeq (pe_ix ixL (pv 1) pe_int (fun _ _ => rfl)) (pe_tup (pa_cons pe_str (pa_cons pe_str pa_nil))) (by rfl))
          (pss_one (ps_set (i := 3) sc_Reading_take.nd rfl (.inl rfl) (pe_mcal (pv 0) (mcal_Reading_take_keys t) hr (pa_cons (pv 1) pa_nil))))
          (pss_one (ps_set (i := 3) sc_Reading_take.nd rfl (.inl rfl) (pe_mcal (pv 0) (mcal_Reading_take_ask t) hr (pa_cons (pv 1) pa_nil)))))))
      (pss_one (ps_if (pt_not (pt_val (pv 3)))
        (pss_one (ps_never))
        pss_nil))), ?_⟩
    cases op with
    | none =>
      obtain ⟨O, hw, hb, hb2, q⟩ := h
      refine ⟨.ref x, rfl, x, _, dx, _, .non, rfl, O.l0, t.k_Reading, t.n_Reading_kind, rfl, rfl, _, rfl, ?_⟩
      rw [decide_eq_true (by rfl)]
      refine iteT ⟨.ref x, rfl, x, dx, _, rfl, O.l0, rfl, .ref wa, rfl, G, _, x, dx, p, wa, n, b, kd, rfl, O, hw, hb, hb2, fun H' O' => ?_⟩
      exact ⟨.bl true, rfl, true, rfl, iteF (q _ O')⟩
    | some op =>
      obtain ⟨O, hw, hk, hn, ht, q⟩ := h
      refine ⟨.ref x, rfl, x, _, dx, _, .str kd.s, rfl, O.l0, t.k_Reading, t.n_Reading_kind, rfl, rfl, _, rfl, ?_⟩
      rw [decide_eq_false (fun h => nomatch h)]
      refine iteF ?_
      refine ⟨.ref wa, rfl, wa, _, _, _, rfl, rfl, O.seq hw, atI_nat (j := 0) rfl, two_ok, fun tp ntp => ?_⟩
      have O1 := (own_new (o := .tup [.str "row", .str "pour"]) O ntp)
      refine ⟨tp, _, rfl, .inr (.inl (.inl O1.l0)), rfl, rfl, _, rfl, ?_⟩
      have kk : ∀ ks, (op = .row ks ∨ op = .pour ks) → tAsg (tMeth (He.ga K "Reading") "take_keys" (sp_Reading_take_keys K T) [] E0 (tVar 0) (tCons (tVar 1) tNil)) (gName 3) ({ nx := tIfS (tNot (tB (tVar 3))) (fun _ _ _ => False) tNext { nx := fun _ H' => Q .non H', rt := Q }, rt := Q } : Ends) [some (.ref x), some (.ref wa), some m, none] (upd H tp (.tup [.str "row", .str "pour"])) := by
        intro ks ho
        exact ⟨.ref x, rfl, x, dx, _, rfl, O1.l1, rfl, .ref wa, rfl, G, l, x, dx, p, wa, kd, nv b, n, tv, op, ks, rfl, O1.drop, ho, hw, hk, hn, ht, fun G' H' v s O' hv => ⟨.bl true, rfl, true, rfl, iteF (q G' H' v s O' hv)⟩⟩
      have aa : ((∃ z, op = .sort z ∧ Way z) ∨ ∃ z, op = .ask z ∧ Ask z) → pn op = 0 → tAsg (tMeth (He.ga K "Reading") "take_ask" (sp_Reading_take_ask K T) [] E0 (tVar 0) (tCons (tVar 1) tNil)) (gName 3) ({ nx := tIfS (tNot (tB (tVar 3))) (fun _ _ _ => False) tNext { nx := fun _ H' => Q .non H', rt := Q }, rt := Q } : Ends) [some (.ref x), some (.ref wa), some m, none] (upd H tp (.tup [.str "row", .str "pour"])) := by
        intro ho h0
        refine ⟨.ref x, rfl, x, dx, _, rfl, O1.l1, rfl, .ref wa, rfl, G, l, x, dx, p, wa, .str kd.s, nv b, n, tv, op, rfl, O1.drop, ho, hw, ht, fun G' H' v s O' hv => ⟨.bl true, rfl, true, rfl, iteF (q G' H' v s ?_ hv)⟩⟩
        rw [h0]
        exact O'
      cases op with
      | row ks => exact iteT (kk ks (.inl rfl))
      | pour ks => exact iteT (kk ks (.inr rfl))
      | sort z => exact iteF (aa (.inl ⟨z, rfl, hk⟩) rfl)
      | ask z =>
        have e : inV (V.str (Op.ask z).w) [.str "row", .str "pour"] = false := by
          rcases hk with rfl | rfl | rfl | rfl | rfl | rfl <;> decide
        rw [e]
        exact iteF (aa (.inr ⟨z, rfl, hk⟩) rfl)
end
end Fs

set_option maxHeartbeats 4000000
/-! A text of rows, read. -/
namespace Fs
open PySem PySem.Spec PyProof.Rows L2
theorem join_cps (sep : Str) (ws : List Str) : cps (Txt.join sep ws) = _root_.TL.joinL (cps sep) (ws.map cps) := by
  rw [_root_.TL.join_eq]
  exact _root_.TL.tl_join sep ws
theorem joinL_mem {S : List Nat} {c : Nat} : ∀ {ps : List (List Nat)}, c ∈ _root_.TL.joinL S ps → c ∈ S ∨ ∃ p ∈ ps, c ∈ p
  | [], h => by cases h
  | [p], h => .inr ⟨p, by simp, h⟩
  | p :: q :: r, h => by
    have h : c ∈ p ++ (S ++ _root_.TL.joinL S (q :: r)) := h
    rcases List.mem_append.mp h with h | h
    · exact .inr ⟨p, by simp, h⟩
    · rcases List.mem_append.mp h with h | h
      · exact .inl h
      · rcases joinL_mem h with h | ⟨x, hx, h⟩
        · exact .inl h
        · exact .inr ⟨x, List.mem_cons_of_mem _ hx, h⟩
theorem joinL_len {S : List Nat} {k : Nat} : ∀ {ps : List (List Nat)}, (∀ p ∈ ps, p.length ≤ k) → (_root_.TL.joinL S ps).length ≤ ps.length * (k + S.length)
  | [], _ => Nat.zero_le _
  | [p], h => by
    have := h p (by simp)
    show p.length ≤ _
    simp
    omega
  | p :: q :: r, h => by
    have h1 := h p (by simp)
    have h2 := joinL_len (S := S) (ps := q :: r) fun x hx => h x (List.mem_cons_of_mem _ hx)
    show (p ++ (S ++ _root_.TL.joinL S (q :: r))).length ≤ _
    rw [List.length_append, List.length_append, List.length_cons, Nat.add_mul, Nat.one_mul]
    omega
theorem joinL_ne {S p : List Nat} {ps : List (List Nat)} (h : 1 ≤ p.length) : _root_.TL.joinL S (p :: ps) ≠ [] := by
  cases ps with
  | nil => intro e; have e : p = [] := e; rw [e] at h; simp at h
  | cons q r =>
    intro e
    have e : p ++ (S ++ _root_.TL.joinL S (q :: r)) = [] := e
    rw [List.append_eq_nil_iff.mp e |>.1] at h
    simp at h
/-- a row: its words side by side -/
abbrev rtxt (ws : List Str) : Str := Txt.join " " ws
structure Wds (ws : List Str) : Prop where
  ne : ws ≠ []
  sg : ∀ z ∈ ws, ∀ c ∈ cps z, 39 ≤ c
  l1 : ∀ z ∈ ws, 1 ≤ z.length ∧ z.length ≤ 100
  n : ws.length ≤ 201
theorem cps_sp : cps (" " : Str) = [32] := by decide
theorem cps_nl : cps ("\n" : Str) = [10] := by decide
theorem Wds.split {ws : List Str} (h : Wds ws) : Txt.split (rtxt ws) " " = ws :=
  _root_.TL.split_join cps_sp (by decide +kernel) h.ne fun z hz hc => by have := h.sg z hz 32 hc; omega
theorem Wds.nonl {ws : List Str} (h : Wds ws) : 10 ∉ cps (rtxt ws) := fun hc => by
  rw [join_cps, cps_sp] at hc
  rcases joinL_mem hc with hc | ⟨p, hp, hc⟩
  · simp at hc
  · obtain ⟨z, hz, rfl⟩ := List.mem_map.mp hp
    have := h.sg z hz 10 hc
    omega
theorem Wds.len {ws : List Str} (h : Wds ws) : (rtxt ws).length ≤ 20301 := by
  rw [str_len, join_cps, cps_sp]
  have := joinL_len (S := [32]) (k := 100) (ps := ws.map cps) fun p hp => by
    obtain ⟨z, hz, rfl⟩ := List.mem_map.mp hp
    rw [← str_len]
    exact (h.l1 z hz).2
  rw [List.length_map, List.length_singleton] at this
  have := Nat.mul_le_mul_right 101 h.n
  omega
theorem Wds.nempty {ws : List Str} (h : Wds ws) : rtxt ws ≠ ("" : Str) := fun e => by
  have e := congrArg cps e
  rw [join_cps] at e
  cases ws with
  | nil => exact h.ne rfl
  | cons w ws =>
    refine joinL_ne (S := cps (" " : Str)) (p := cps w) (ps := ws.map cps) (by rw [← str_len]; exact (h.l1 w (by simp)).1) ?_
    rw [List.map_cons] at e
    rw [e]
    decide
abbrev kindW (kd : Kd) (b : Nat) : List Str := ["kind", kd.s, iw (b : Int)]
theorem wds_kind {kd : Kd} {b : Nat} (hb : b ≤ 64) : Wds (kindW kd b) := by
  have li := iw_int (n := (b : Int)) (by show b < _; omega)
  have l0 : 1 ≤ (iw (b : Int)).length := by
    rw [str_len, iw_nat]
    exact List.length_pos_iff.mpr (_root_.TL.numL_ne b)
  refine ⟨by simp, fun z hz c hc => ?_, fun z hz => ?_, by show 3 ≤ 201; decide⟩
  · simp only [kindW, List.mem_cons, List.not_mem_nil, or_false] at hz
    rcases hz with rfl | rfl | rfl
    · revert c; decide
    · cases kd <;> (revert c; decide)
    · rcases iw_signs hc with h | h <;> omega
  · simp only [kindW, List.mem_cons, List.not_mem_nil, or_false] at hz
    rcases hz with rfl | rfl | rfl
    · decide
    · cases kd <;> decide
    · omega
theorem wds_op {kd : Kd} {op : Op} (h : OpOk kd op) : Wds (opw op) := by
  have keys : ∀ (w : Str) (ks : List Ky), (∀ c ∈ cps w, 39 ≤ c) → 1 ≤ w.length ∧ w.length ≤ 100 → (∀ k ∈ ks, KyOk kd k) → ks.length ≤ 200 → Wds (w :: ks.map kwd) := by
    intro w ks hw hl hk hn
    refine ⟨by simp, fun z hz c hc => ?_, fun z hz => ?_, by rw [List.length_cons, List.length_map]; omega⟩
    · rcases List.mem_cons.mp hz with rfl | hz
      · exact hw c hc
      · obtain ⟨k, hk2, rfl⟩ := List.mem_map.mp hz
        exact kwd_signs (hk k hk2) hc
    · rcases List.mem_cons.mp hz with rfl | hz
      · exact hl
      · obtain ⟨k, hk2, rfl⟩ := List.mem_map.mp hz
        exact ⟨(kwd_len (hk k hk2)).2, (kwd_len (hk k hk2)).1⟩
  cases op with
  | row ks => exact keys "row" ks (by decide) (by decide) h.1 h.2
  | pour ks => exact keys "pour" ks (by decide) (by decide) h.1 h.2.2
  | sort z =>
    have : ∀ y ∈ ([("sort" : Str), z] : List Str), (∀ c ∈ cps y, 39 ≤ c) ∧ 1 ≤ y.length ∧ y.length ≤ 100 := by
      intro y hy
      simp only [List.mem_cons, List.not_mem_nil, or_false] at hy
      rcases hy with rfl | rfl
      · decide
      · rcases h with rfl | rfl | rfl <;> decide
    exact ⟨by simp [opw], fun y hy => (this y hy).1, fun y hy => (this y hy).2, by show 2 ≤ 201; decide⟩
  | ask z =>
    have : ∀ y ∈ [z], (∀ c ∈ cps y, 39 ≤ c) ∧ 1 ≤ y.length ∧ y.length ≤ 100 := by
      intro y hy
      rw [List.mem_singleton.mp hy]
      rcases h with rfl | rfl | rfl | rfl | rfl | rfl <;> decide
    exact ⟨by simp [opw], fun y hy => (this y hy).1, fun y hy => (this y hy).2, by show 1 ≤ 201; decide⟩
/-- the whole text -/
abbrev lines (kd : Kd) (b : Nat) (ops : List Op) : List (List Str) := kindW kd b :: ops.map opw
abbrev ttxt (kd : Kd) (b : Nat) (ops : List Op) : Str := Txt.join "\n" ((lines kd b ops).map rtxt)
theorem lines_ok {kd : Kd} {b : Nat} {ops : List Op} (hb : b ≤ 64) (h : ∀ op ∈ ops, OpOk kd op) : ∀ ws ∈ lines kd b ops, Wds ws := by
  intro ws hw
  rcases List.mem_cons.mp hw with rfl | hw
  · exact wds_kind hb
  · obtain ⟨op, ho, rfl⟩ := List.mem_map.mp hw
    exact wds_op (h op ho)
theorem ttxt_split {kd : Kd} {b : Nat} {ops : List Op} (hb : b ≤ 64) (h : ∀ op ∈ ops, OpOk kd op) : Txt.split (ttxt kd b ops) "\n" = (lines kd b ops).map rtxt :=
  _root_.TL.split_join cps_nl (by decide +kernel) (by simp) fun z hz => by
    obtain ⟨ws, hw, rfl⟩ := List.mem_map.mp hz
    exact (lines_ok hb h ws hw).nonl
theorem ttxt_len {kd : Kd} {b : Nat} {ops : List Op} (hb : b ≤ 64) (h : ∀ op ∈ ops, OpOk kd op) (hn : ops.length ≤ 100) : (ttxt kd b ops).length + 2 ≤ sizeLine := by
  rw [str_len, join_cps, cps_nl]
  have := joinL_len (S := [10]) (k := 20301) (ps := ((lines kd b ops).map rtxt).map cps) fun p hp => by
    obtain ⟨z, hz, rfl⟩ := List.mem_map.mp hp
    obtain ⟨ws, hw, rfl⟩ := List.mem_map.mp hz
    rw [← str_len]
    exact (lines_ok hb h ws hw).len
  rw [List.length_map, List.length_map, List.length_singleton, List.length_cons, List.length_map] at this
  rw [sizeLine_eq]
  have := Nat.mul_le_mul_right 20302 (show ops.length + 1 ≤ 101 by omega)
  omega
section
variable {P : Program} {w : World} {K : PySem.W.Frag} {mg : Str → Option Value} {base : Heap} {T : TL}
def sp_reading_of (K : PySem.W.Frag) (T : TL) : Sp := fun vs H Q _ => ∃ (G : Hp) (l : List (Addr × HO)) (kd : Kd) (b : Nat) (ops : List Op), vs = [.str (ttxt kd b ops)] ∧ Own T G H l ∧ 2 ≤ b ∧ b ≤ 64 ∧ (∀ op ∈ ops, OpOk kd op) ∧ (ops.map pn).sum ≤ 200 ∧ ops.length ≤ 100 ∧
  ∀ G' H' x dx p tv n, Same G G' → Own T G' H' ((x, rdO K dx (.str kd.s) (nv b) p n) :: (p, .lst tv) :: l) → Each (TakenV K G') tv ops → Q (.ref x) H'
theorem sc_reading_of : FnScope ["text", "reading", "rows", "number", "row"] ["text"] (defScope s_reading_of) := ⟨rfl, rfl, rfl, by decide +kernel, rfl, by decide +kernel, by decide +kernel⟩
theorem cal_reading_of (t : Ctx K mg base T) : Cal P w K mg base 7 "reading_of" ["text"] (sp_reading_of K T) := by
  refine cal_of t.d_reading_of t.g_reading_of sc_reading_of (fun _ _ _ _ _ _ us hl => match us, hl with | [_], _ => rfl) (fun vs H Q E h => ?_) (fun cdv A outer s H vs Q E hr h => ?_)
  · obtain ⟨G, l, kd, b, ops, rfl, _⟩ := h
    rfl
  · obtain ⟨G, l, kd, b, ops, rfl, O, hb, hb2, hk, hs, hn, q⟩ := h
    refine ⟨_, (pss_cons (ps_set (i := 1) sc_reading_of.nd rfl (.inl rfl) (pe_kcal0 (kcal_Reading t) hr))
      (pss_cons (ps_set (i := 2) sc_reading_of.nd rfl (.inl rfl) (pe_split (pv 0) pe_str))
      (pss_cons (ps_for PassesOwn.never rfl (pi_enum (by rfl) t.enumerate (pa_cons (pv 2) pa_nil)) (pg_tup (by rfl) (pgs_cons (pg_name (i := 3) sc_reading_of.nd rfl (.inl rfl)) (pgs_cons (pg_name (i := 4) sc_reading_of.nd rfl (.inl rfl)) pgs_nil)))
        (pss_one (ps_if (pt_cmpR op_ne (pv 4) pe_str (nomark _))
          (pss_one (ps_expr (pe_mcal (pv 1) (mcal_Reading_take t) hr (pa_cons (pe_split (pv 4) pe_str) (pa_cons (pv 3) pa_nil)))))
          pss_nil)))
      (pss_cons (ps_if (pt_cmpR op_isN (fldK (pv 1) (by rfl)) pe_non (nomark _))
        (pss_one (ps_never))
        pss_nil)
      (pss_one (ps_ret (pv 1))))))), ?_⟩
    refine fun x dx nx ndx ne => ?_
    have O0 := own_new (o := .ins (He.ga K "Reading") dx []) (own_new (o := .own x) O ndx) (by rw [upd_ne ne.symm]; exact nx)
    refine ⟨G, _, x, dx, rfl, O0, fun H1 p O1 => ⟨rfl, ?_⟩⟩
    have O1 : Own T G H1 ((x, rdO K dx .non .non p 0) :: (p, .lst []) :: l) := O1.rot.drop
    refine ⟨.str (ttxt kd b ops), rfl, ⟨_, rfl⟩, _, _, rfl, rfl, rfl, ttxt_len hb2 hk hn, fun pr npr => ?_⟩
    rw [ttxt_split hb2 hk]
    have O2 := own_new (o := .lst (((lines kd b ops).map rtxt).map V.str)) O1 npr
    have s2 := O2.gup
    have O2 := O2.frz
    have hpr : SL K (upd G pr (.lst (((lines kd b ops).map rtxt).map V.str))) pr ((lines kd b ops).map rtxt) := .inl (.inl upd_same)
    generalize upd G pr (.lst (((lines kd b ops).map rtxt).map V.str)) = G2 at s2 O2 hpr
    refine ⟨.ref pr, rfl, pr, _, rfl, O2.seq hpr, for_it (walk_enum (xs := ((lines kd b ops).map rtxt).map V.str)) (fun i σ H' => ∃ y3 y4 G' tv, σ = [some (.str (ttxt kd b ops)), some (.ref x), some (.ref pr), y3, y4] ∧ Same G2 G' ∧ ((i = 0 ∧ tv = [] ∧ Own T G' H' ((x, rdO K dx .non .non p 0) :: (p, .lst []) :: l)) ∨ ∃ j, i = j + 1 ∧ Own T G' H' ((x, rdO K dx (.str kd.s) (nv b) p ((ops.take j).map pn).sum) :: (p, .lst tv) :: l) ∧ Each (TakenV K G') tv (ops.take j))) ⟨none, none, G2, [], rfl, Same.refl _, .inl ⟨rfl, rfl, O2⟩⟩ (fun i σ H' _ ⟨_, _, G', _, _, s, h⟩ => ?_) (fun i v σ H4 H5 hi ⟨y3, y4, G', tv, e, s, h⟩ hy => ?_) (fun σ H4 ⟨y3, y4, G', tv, e, s, h⟩ => ?_)⟩
    · rcases h with ⟨_, _, O3⟩ | ⟨j, _, O3, _⟩
      · exact O3.seq (s.seq hpr)
      · exact O3.seq (s.seq hpr)
    · subst e
      obtain ⟨Tp, x1, x2, rfl, nT, rfl, e1, e2⟩ := hy
      obtain rfl : .int (i : Int) = x1 := Option.some.inj e1
      obtain ⟨z, ez, rfl⟩ := map_at e2
      obtain ⟨ws, ews, rfl⟩ : ∃ ws, (lines kd b ops)[i]? = some ws ∧ z = rtxt ws := by
        rw [List.getElem?_map] at ez
        cases e : (lines kd b ops)[i]? with
        | none => rw [e] at ez; cases ez
        | some ws => rw [e] at ez; exact ⟨ws, rfl, (Option.some.inj ez).symm⟩
      have hws := lines_ok hb2 hk ws (List.mem_of_getElem? ews)
      have hlen := hws.len
      refine ⟨Tp, _, rfl, .inl (.inl upd_same), rfl, nv i, _, rfl, .str (rtxt ws), _, rfl, rfl, .str (rtxt ws), rfl, rfl, _, rfl, ?_⟩
      rw [decide_eq_false (fun h => hws.nempty (by injection h))]
      refine iteT ?_
      rcases h with ⟨rfl, rfl, O3⟩ | ⟨j, rfl, O3, hE⟩
      · obtain rfl : kindW kd b = ws := Option.some.inj ews
        have O4 := (own_new (o := .tup [nv 0, .str (rtxt (kindW kd b))]) O3 nT).drop
        refine ⟨.ref x, rfl, x, dx, _, rfl, O4.l0, rfl, .str _, rfl, ⟨_, rfl⟩, _, _, rfl, rfl, rfl, by rw [sizeLine_eq]; omega, fun wa nwa => ?_⟩
        rw [hws.split]
        have O5 := own_new (o := .lst ((kindW kd b).map V.str)) O4 nwa
        refine ⟨nv 0, rfl, _, l, x, dx, p, wa, nv 0, kd, b, 0, [], none, rfl, O5.frz, .inl (.inl upd_same), hb, hb2, fun H6 O6 => ?_⟩
        exact ⟨_, _, _, [], rfl, s.trans O5.gup, .inr ⟨0, rfl, O6, Each.nil⟩⟩
      · obtain ⟨op, eo, rfl⟩ : ∃ op, ops[j]? = some op ∧ ws = opw op := by
          have ews : (ops.map opw)[j]? = some ws := ews
          rw [List.getElem?_map] at ews
          cases e : ops[j]? with
          | none => rw [e] at ews; cases ews
          | some op => rw [e] at ews; exact ⟨op, rfl, (Option.some.inj ews).symm⟩
        have O4 := (own_new (o := .tup [nv (j + 1), .str (rtxt (opw op))]) O3 nT).drop
        refine ⟨.ref x, rfl, x, dx, _, rfl, O4.l0, rfl, .str _, rfl, ⟨_, rfl⟩, _, _, rfl, rfl, rfl, by rw [sizeLine_eq]; omega, fun wa nwa => ?_⟩
        rw [hws.split]
        have O5 := own_new (o := .lst ((opw op).map V.str)) O4 nwa
        have hsum : ((ops.take j).map pn).sum + pn op ≤ 200 := by
          have e : (ops.map pn).sum = ((ops.take j).map pn).sum + ((ops.drop j).map pn).sum := by rw [← List.sum_append, ← List.map_append, List.take_append_drop]
          rw [drop_at eo, List.map_cons, List.sum_cons] at e
          omega
        refine ⟨nv (j + 1), rfl, _, l, x, dx, p, wa, nv (j + 1), kd, b, _, tv, some op, rfl, O5.frz, .inl (.inl upd_same), hk op (List.mem_of_getElem? eo), hsum, by rw [hE.1, List.length_take]; omega, fun G6 H6 v s6 O6 hv => ?_⟩
        refine ⟨_, _, G6, tv ++ [v], rfl, (s.trans O5.gup).trans s6, .inr ⟨j + 1, rfl, ?_, ?_⟩⟩
        · rw [take_snoc eo, List.map_append, List.sum_append, show ([op].map pn).sum = pn op by simp]
          exact O6
        · rw [take_snoc eo]
          exact (hE.mono fun _ _ => TakenV.up (O5.gup.trans s6)).snoc hv
    · subst e
      rcases h with ⟨h, _⟩ | ⟨j, hj, O3, hE⟩
      · simp [lines] at h
      · have hj : j = ops.length := by simp [lines] at hj; omega
        subst hj
        rw [List.take_length] at hE
        refine ⟨.ref x, rfl, x, _, dx, _, .str kd.s, rfl, O3.l0, t.k_Reading, t.n_Reading_kind, rfl, rfl, _, rfl, ?_⟩
        rw [decide_eq_false (fun h => nomatch h)]
        exact iteF ⟨.ref x, rfl, q G' _ x dx p tv _ (s2.trans s) O3 hE⟩
end
end Fs

set_option maxHeartbeats 4000000
/-! The desk. -/
namespace Fs
open PySem PySem.Spec PyProof.Rows L2
theorem klt_as (ks : List Ky) (p q : Nat) (h : klt ks p q) : ¬ klt ks q p := by
  unfold klt at *
  revert h
  cases ks.getD p (.num 0) <;> cases ks.getD q (.num 0) <;> intro h g <;> first
    | exact False.elim h
    | (simp only [klt1] at h g; omega)
    | exact List.lt_irrefl _ (List.lt_trans h g)
/-- THE order of some keys -/
noncomputable def ordK (ks : List Ky) : List Nat := Classical.epsilon fun o => IsOrd (klt ks) ks.length o
theorem ordK_eq {ks : List Ky} {o : List Nat} (h : IsOrd (klt ks) ks.length o) : o = ordK ks :=
  IsOrd.one (klt_as ks) h (Classical.epsilon_spec (p := fun o => IsOrd (klt ks) ks.length o) ⟨o, h⟩)
abbrev kwds (ks : List Ky) : Str := wds " " (ks.map kwd)
abbrev pick (ks : List Ky) (o : List Nat) : List Ky := o.map fun i => ks.getD i (.num 0)
/-- the heaps' lengths behind some pours -/
def lensOf : List (List Ky) → List Nat → List Nat
  | [], L => L
  | h :: ps, L => lensOf ps (hp L.reverse h.length).reverse
theorem lensOf_snoc (h : List Ky) : ∀ (ps : List (List Ky)) (L : List Nat), lensOf (ps ++ [h]) L = (hp (lensOf ps L).reverse h.length).reverse
  | [], L => rfl
  | a :: ps, L => lensOf_snoc h ps _
/-- what is answered -/
noncomputable def ans (ks : List Ky) (ps : List (List Ky)) : Op → Str
  | .sort _ => kwds (pick ks (ordK ks))
  | .ask w =>
    if w = "order" then nword (ordK ks)
    else if w = "back" then nword ((List.range (ordK ks).length).map fun k => (ordK ks).idxOf k)
    else if w = "rings" then wds " ; " ((rgs (stp (ordK ks)) (ordK ks).length).map nword)
    else if w = "walk" then wds " ; " ((allMoves (ordK ks)).map mword)
    else if w = "poured" then kwds (pick ps.flatten (ordK ps.flatten))
    else nword (lensOf ps [])
  | _ => ""
theorem pick_each {K : PySem.W.Frag} {G : Hp} {us : List V} {ks : List Ky} {o : List Nat} (h : Keys K G us ks) (ho : ∀ i ∈ o, i < ks.length) : Keys K G (o.map fun i => us.getD i .non) (pick ks o) := by
  refine ⟨by simp, fun i v k h1 h2 => ?_⟩
  rw [List.getElem?_map] at h1 h2
  cases e : o[i]? with
  | none => rw [e] at h1; cases h1
  | some j =>
    rw [e] at h1 h2
    obtain rfl := Option.some.inj h1
    obtain rfl := Option.some.inj h2
    have hj := ho j (List.mem_of_getElem? e)
    have hj2 : j < us.length := by rw [h.1]; exact hj
    exact h.2 j _ _ (by simp [List.getD, hj2]) (by simp [List.getD, hj])
theorem pick_ok {kd : Kd} {ks : List Ky} {o : List Nat} (h : ∀ k ∈ ks, KyOk kd k) (ho : ∀ i ∈ o, i < ks.length) : ∀ k ∈ pick ks o, KyOk kd k := by
  intro k hk
  obtain ⟨i, hi, rfl⟩ := List.mem_map.mp hk
  exact h _ (klt_at (ho i hi) _)
section
variable {P : Program} {w : World} {K : PySem.W.Frag} {mg : Str → Option Value} {base : Heap} {T : TL}
def sp_all_moves (K : PySem.W.Frag) (T : TL) : Sp := fun vs H Q _ => ∃ (G : Hp) (l : List (Addr × HO)) (x dx p1 p2 : Addr) (us mv : List V) (ms : List Mv), vs = [.ref x] ∧ Own T G H ((x, rwO K dx p1 p2 .non 0) :: (p1, .lst us) :: (p2, .lst mv) :: l) ∧ Moves K G mv ms ∧ (∀ m ∈ ms, MvOk us.length m) ∧ mv.length ≤ 50000 ∧
  ∀ H' p, Own T G H' ((p, .lst mv) :: l) → Q (.ref p) H'
theorem sc_all_moves : FnScope ["walk", "found", "move"] ["walk"] (defScope s_all_moves) := ⟨rfl, rfl, rfl, by decide +kernel, rfl, by decide +kernel, by decide +kernel⟩
theorem cal_all_moves (t : Ctx K mg base T) : Cal P w K mg base 3 "all_moves" ["walk"] (sp_all_moves K T) := by
  refine cal_of t.d_all_moves t.g_all_moves sc_all_moves (fun _ _ _ _ _ _ us hl => match us, hl with | [_], _ => rfl) (fun vs H Q E h => ?_) (fun cdv A outer s H vs Q E hr h => ?_)
  · obtain ⟨G, l, x, dx, p1, p2, us, mv, ms, rfl, _⟩ := h
    rfl
  · obtain ⟨G, l, x, dx, p1, p2, us, mv, ms, rfl, O, hm, ho, hn, q⟩ := h
    refine ⟨_, (pss_cons (ps_set (i := 1) sc_all_moves.nd rfl (.inl rfl) (pe_lst pa_nil))
      (pss_cons (ps_set (i := 2) sc_all_moves.nd rfl (.inl rfl) (pe_mcal0 (pv 0) (mcal_RingWalk_step t) hr))
      (pss_cons (ps_while PassesOwn.never (pt_cmpR op_notN (pv 2) pe_non (nomark _))
        (pss_cons (ps_expr (bmK PySem.F.plainAttrs_list PySem.F.slot_list_append PySem.F.type_list_append mt_append (pv 1) (pa_cons (pv 2) pa_nil)))
        (pss_one (ps_set (i := 2) sc_all_moves.nd rfl (.inl rfl) (pe_mcal0 (pv 0) (mcal_RingWalk_step t) hr)))))
      (pss_one (ps_ret (pv 1)))))), ?_⟩
    refine ⟨Nat.zero_le _, fun pf n0 => ?_⟩
    have O1 := own_new (o := .lst (mv.take 0)) O n0
    have O1 : Own T G _ ((x, rwO K dx p1 p2 .non 0) :: (p1, .lst us) :: (p2, .lst mv) :: (pf, .lst (mv.take 0)) :: l) := O1.perm (by
      refine (List.Perm.swap _ _ _).trans (List.Perm.cons _ ((List.Perm.swap _ _ _).trans (List.Perm.cons _ (List.Perm.swap _ _ _))))
      )
    -- a step: the next move, or none
    let W : Nat → L2.St → Hp → Prop := fun m σ H' => ∃ d us' h v, d ≤ mv.length ∧ m = mv.length - d ∧ us'.length = us.length ∧ σ = [some (.ref x), some (.ref pf), some v] ∧
      ((d = mv.length ∧ v = .non ∧ Own T G H' ((x, rwO K dx p1 p2 h d) :: (p1, .lst us') :: (p2, .lst mv) :: (pf, .lst mv) :: l)) ∨ (mv[d]? = some v ∧ Own T G H' ((x, rwO K dx p1 p2 h (d + 1)) :: (p1, .lst us') :: (p2, .lst mv) :: (pf, .lst (mv.take d)) :: l)))
    have next : ∀ (d : Nat) (us' : List V) (h : V) (H' : Hp) (Dd : Ends) (σ2 : Option V), d ≤ mv.length → us'.length = us.length → Own T G H' ((x, rwO K dx p1 p2 h d) :: (p1, .lst us') :: (p2, .lst mv) :: (pf, .lst (mv.take d)) :: l) →
        (∀ m σ H', W m σ H' → m ≤ mv.length - d → Dd.nx σ H') → tAsg (tMeth (He.ga K "RingWalk") "step" (sp_RingWalk_step K T) [] E0 (tVar 0) tNil) (gName 2) Dd [some (.ref x), some (.ref pf), σ2] H' := by
      intro d us' h H' Dd σ2 hd hu O2 hD
      refine ⟨.ref x, rfl, x, dx, _, rfl, O2.l0, rfl, G, _, x, dx, p1, p2, h, d, us', mv, ms, rfl, O2, hm, by rw [hu]; exact ho, fun e => ?_, hd, fun H3 h' us2 v ev hl O3 => ?_⟩
      · refine hD _ _ _ ⟨d, us', h, .non, hd, rfl, hu, rfl, .inl ⟨e, rfl, ?_⟩⟩ (Nat.le_refl _)
        rw [e, List.take_length] at O2
        rw [e]
        exact O2
      · exact hD _ _ _ ⟨d, us2, h', v, hd, rfl, by omega, rfl, .inr ⟨ev, O3⟩⟩ (Nat.le_refl _)
    refine next 0 us .non _ _ none (Nat.zero_le _) rfl O1 fun m σ H' hW _ => ⟨W, ⟨m, hW⟩, fun m σ H' ⟨d, us', h, v, hd, hmm, hu, e, hc⟩ => ?_⟩
    subst e
    refine ⟨v, rfl, rfl, _, rfl, ?_⟩
    rcases hc with ⟨e1, rfl, O2⟩ | ⟨ev, O2⟩
    · rw [decide_eq_true (by rfl)]
      exact iteF ⟨.ref pf, rfl, q _ _ O2.drop.drop.drop⟩
    · obtain ⟨mm, _, hv⟩ := hm.at_v ev
      have hne : v ≠ .non := by
        cases mm <;> (obtain ⟨t', rfl, _⟩ := hv; exact fun h => nomatch h)
      rw [decide_eq_false hne]
      refine iteT ?_
      have hlt : d < mv.length := (List.getElem?_eq_some_iff.mp ev).1
      refine ⟨fun σ' H'' => ∃ m', m' < m ∧ W m' σ' H'', fun _ _ h => h, .ref pf, rfl, .inl ⟨rfl, _, .inl (.inl O2.l3)⟩, v, rfl, pf, _, _, rfl, rfl, O2.l3, sz' (by rw [List.length_take]; omega), ?_⟩
      rw [← take_snoc ev]
      exact next (d + 1) us' h _ _ _ hlt hu (own_set (o' := .lst (mv.take (d + 1))) O2 3 rfl) fun m' σ' H'' hW hm' => ⟨m', by omega, hW⟩
abbrev dkO (K : PySem.W.Frag) (dx : Addr) (kd : Kd) (b : Nat) (pk pp : Addr) : HO := .ins (He.ga K "Desk") dx [("kind", .str kd.s), ("base", nv b), ("own_keys", .ref pk), ("own_pours", .ref pp)]
def sp_Desk___init__ (K : PySem.W.Frag) (T : TL) : Sp := fun vs H Q _ => ∃ (G : Hp) (l : List (Addr × HO)) (x dx : Addr) (kd : Kd) (b : Nat), vs = [.ref x, .str kd.s, nv b] ∧ Own T G H ((x, .ins (He.ga K "Desk") dx []) :: l) ∧
  ∀ H' pk pp, Own T G H' ((pk, .lst []) :: (x, dkO K dx kd b pk pp) :: (pp, .lst []) :: l) → Q .non H'
theorem sc_Desk___init__ : FnScope ["self", "kind", "base"] ["self", "kind", "base"] (defScope s_Desk___init__) := ⟨rfl, rfl, rfl, by decide +kernel, rfl, by decide +kernel, by decide +kernel⟩
theorem kcal_Desk (t : Ctx K mg base T) : KCal P w K mg base 1 (He.ga K "Desk") "Desk" ["self", "kind", "base"] (sp_Desk___init__ K T) := by
  refine kcal_of t.d_Desk___init__ t.g_Desk t.mk_Desk sc_Desk___init__ (fun _ _ _ _ _ _ us hl => match us, hl with | [_, _, _], _ => rfl) (fun vs H Q E h => ?_) (fun cdv A outer s H vs Q E hr h => ?_)
  · obtain ⟨G, l, x, dx, kd, b, rfl, _⟩ := h
    rfl
  · obtain ⟨G, l, x, dx, kd, b, rfl, O, q⟩ := h
    refine ⟨_, (pss_cons (ps_fld (pv 0) (pv 1) rfl)
      (pss_cons (ps_fld (pv 0) (pv 2) rfl)
      (pss_cons (ps_fld (pv 0) (pe_lst pa_nil) rfl)
      (pss_one (ps_fld (pv 0) (pe_lst pa_nil) rfl))))), ?_⟩
    refine ⟨.str kd.s, rfl, .ref x, rfl, x, _, dx, _, rfl, O.l0, t.k_Desk, t.n_Desk_kind, (by show 0 < 1000; decide), ?_⟩
    have O1 := own_set (o' := .ins (He.ga K "Desk") dx [("kind", .str kd.s)]) O 0 rfl
    refine ⟨nv b, rfl, .ref x, rfl, x, _, dx, _, rfl, O1.l0, t.k_Desk, t.n_Desk_base, (by show 1 < 1000; decide), ?_⟩
    have O2 := own_set (o' := .ins (He.ga K "Desk") dx [("kind", .str kd.s), ("base", nv b)]) O1 0 rfl
    refine ⟨Nat.zero_le _, fun pk n1 => ?_⟩
    have O3 := own_new (o := .lst []) O2 n1
    refine ⟨.ref x, rfl, x, _, dx, _, rfl, O3.l1, t.k_Desk, t.n_Desk_own_keys, (by show 2 < 1000; decide), ?_⟩
    have O4 := own_set (o' := .ins (He.ga K "Desk") dx [("kind", .str kd.s), ("base", nv b), ("own_keys", .ref pk)]) O3 1 rfl
    refine ⟨Nat.zero_le _, fun pp n2 => ?_⟩
    have O5 := own_new (o := .lst []) O4 n2
    refine ⟨.ref x, rfl, x, _, dx, _, rfl, O5.l2, t.k_Desk, t.n_Desk_own_pours, (by show 3 < 1000; decide), ?_⟩
    have O6 := own_set (o' := dkO K dx kd b pk pp) O5 2 rfl
    exact q _ pk pp (O6.perm ((List.Perm.swap _ _ _).trans (List.Perm.cons _ (List.Perm.swap _ _ _))))
def sp_Desk_written (K : PySem.W.Frag) (T : TL) : Sp := fun vs H Q _ => ∃ (G : Hp) (l : List (Addr × HO)) (x dx pk pp wa : Addr) (kd : Kd) (b : Nat) (us : List V) (ks : List Ky), vs = [.ref x, .ref wa] ∧ Own T G H ((x, dkO K dx kd b pk pp) :: l) ∧ SqL K G wa us ∧ Keys K G us ks ∧ (∀ k ∈ ks, KyOk kd k) ∧ ks.length ≤ 1000 ∧
  ∀ H', Own T G H' ((x, dkO K dx kd b pk pp) :: l) → Q (.str (kwds ks)) H'
theorem sc_Desk_written : FnScope ["self", "keys", "key"] ["self", "keys"] (defScope s_Desk_written) := ⟨rfl, rfl, rfl, by decide +kernel, rfl, by decide +kernel, by decide +kernel⟩
theorem mcal_Desk_written (t : Ctx K mg base T) : MCal P w K mg base 2 (He.ga K "Desk") "written" ["self", "keys"] (sp_Desk_written K T) := by
  refine mcal_of t.d_Desk_written t.k_Desk t.m_Desk_written sc_Desk_written (fun _ _ _ _ _ _ us hl => match us, hl with | [_, _], _ => rfl) (fun vs H Q E h => ?_) (fun cdv A outer s H vs Q E hr h => ?_)
  · obtain ⟨G, l, x, dx, pk, pp, wa, kd, b, us, ks, rfl, _⟩ := h
    rfl
  · obtain ⟨G, l, x, dx, pk, pp, wa, kd, b, us, ks, rfl, O, hw, hk, ho, hn, q⟩ := h
    refine ⟨_, (pss_one (ps_ret (pe_ifExp (pt_cmpR op_gt (pe_callB lenK (by rfl) t.len (by decide +kernel) (pa_cons (pv 1) pa_nil)) pe_int (nomark _)) (joinK pe_str (pe_lc (own := [("key", 2)]) (g := gName 2) (tt := tYes) (by rfl) sc_Desk_written.nd (piL (pv 1)) (blkOk_by (own := [("key", 2)]) (N := ["self", "keys", "key"]) (sc := defScope s_Desk_written) (by decide +kernel)) (fun _ _ _ _ _ => (pg_name (i := 2) sc_Desk_written.nd rfl (.inl rfl))) (fun _ _ _ _ _ => pts_nil) (fun _ _ _ _ _ => (pe_cal (cal_key_word t) hr (pa_cons (fldK (pv 0) (by rfl)) (pa_cons (pv 2) pa_nil)))))) (pe_gs t.c_NONE)))), ?_⟩
    have l1 : (" " : Str).length = 1 := by decide
    have hl := hk.1
    refine ⟨.ref wa, rfl, wa, us, rfl, .inl (O.seq hw), _, _, rfl, rfl, _, rfl, ite2 (fun h => ?_) (fun h => ?_)⟩
    · have h0 : 0 < ks.length := by
        have := of_decide_eq_true h
        omega
      refine ⟨⟨_, rfl⟩, .ref wa, rfl, wa, rfl, ⟨_, O.seq hw⟩, fun D nD => lc_valS [some (.ref x), some (.ref wa), none] rfl (ys := ks) walk_list O nD hl.symm (by omega) (fun k => .str (kwd k)) (fun H' s => s.seq hw) (fun i v k H1 H2 acc Qc hi ek O2 hy hQ => ?_) (fun H1 O1 => ?_)⟩
      · obtain ⟨rfl, hy⟩ := hy
        exact ⟨rfl, .ref x, rfl, x, _, dx, _, .str kd.s, rfl, O2.l1, t.k_Desk, t.n_Desk_kind, rfl, v, rfl, kd, v, k, rfl, KeyV.up O2.sub (hk.2 i v k hy ek), ho k (List.mem_of_getElem? ek), hQ _ O2⟩
      · have hsum := len_sum (k := 100) (ws := ks.map kwd) fun z hz => by
          obtain ⟨k, hk2, rfl⟩ := List.mem_map.mp hz
          exact (kwd_len (ho k hk2)).1
        rw [List.length_map] at hsum
        refine ⟨_, D, ks.map kwd, rfl, rfl, .inl (.inl (by rw [O1.l0, List.map_map]; rfl)), by rw [l1, List.length_map]; omega, ?_⟩
        have := q _ O1.drop
        unfold kwds at this
        rw [wds_some (by rw [List.length_map]; exact h0)] at this
        exact this
    · have h0 : ks = [] := by
        cases ks with
        | nil => rfl
        | cons n ns => exact absurd (decide_eq_true (by rw [hl, List.length_cons]; omega : (0 : Int) < ((us.length : Nat) : Int))) h
      subst h0
      exact q _ O
def sp_Desk_own_order (K : PySem.W.Frag) (T : TL) : Sp := fun vs H Q _ => ∃ (G : Hp) (l : List (Addr × HO)) (x dx pk pp : Addr) (kd : Kd) (b : Nat) (us : List V) (ks : List Ky), vs = [.ref x] ∧ Own T G H ((x, dkO K dx kd b pk pp) :: l) ∧ SqL K G pk us ∧ Keys K G us ks ∧ (∀ k ∈ ks, KyOk kd k) ∧ ks.length ≤ 200 ∧ 2 ≤ b ∧ b ≤ 64 ∧
  ∀ G' H' p o, Same G G' → Own T G' H' ((p, .lst (o.map nv)) :: (x, dkO K dx kd b pk pp) :: l) → IsOrd (klt ks) ks.length o → Q (.ref p) H'
theorem sc_Desk_own_order : FnScope ["self"] ["self"] (defScope s_Desk_own_order) := ⟨rfl, rfl, rfl, by decide +kernel, rfl, by decide +kernel, by decide +kernel⟩
theorem mcal_Desk_own_order (t : Ctx K mg base T) : MCal P w K mg base 4 (He.ga K "Desk") "own_order" ["self"] (sp_Desk_own_order K T) := by
  refine mcal_of t.d_Desk_own_order t.k_Desk t.m_Desk_own_order sc_Desk_own_order (fun _ _ _ _ _ _ us hl => match us, hl with | [_], _ => rfl) (fun vs H Q E h => ?_) (fun cdv A outer s H vs Q E hr h => ?_)
  · obtain ⟨G, l, x, dx, pk, pp, kd, b, us, ks, rfl, _⟩ := h
    rfl
  · obtain ⟨G, l, x, dx, pk, pp, kd, b, us, ks, rfl, O, hw, hk, ho, hn, hb, hb2, q⟩ := h
    refine ⟨_, (pss_one (ps_ret (pe_cal (cal_told_order t) hr (pa_cons (pe_ix ixT (pe_cal (cal_spelled t) hr (pa_cons (fldK (pv 0) (by rfl)) (pa_cons (fldK (pv 0) (by rfl)) (pa_cons (fldK (pv 0) (by rfl)) pa_nil)))) pe_int (fun _ _ => rfl)) pa_nil)))), ?_⟩
    refine ⟨.ref x, rfl, x, _, dx, _, .str kd.s, rfl, O.l0, t.k_Desk, t.n_Desk_kind, rfl, .ref x, rfl, x, _, dx, _, .ref pk, rfl, O.l0, t.k_Desk, t.n_Desk_own_keys, rfl, .ref x, rfl, x, _, dx, _, nv b, rfl, O.l0, t.k_Desk, t.n_Desk_base, rfl, ?_⟩
    refine ⟨G, _, pk, kd, us, ks, b, rfl, O, hw, hk, ho, by omega, hb, hb2, fun G1 H1 p1 rl us' rows b' s1 O1 hp1 hrl hR hS => ?_⟩
    refine ⟨p1, _, _, _, rfl, rfl, O1.tup hp1, atI_nat (j := 1) rfl, G1, _, rl, us', rows, rfl, O1, hrl, hR, ?_, by rw [hS.1]; exact hn, fun G2 H2 p o s2 O2 hI => ?_⟩
    · obtain ⟨w, _, hw⟩ := hS.2.2.2.1
      exact ⟨w, hw⟩
    · rw [hS.1] at hI
      exact q G2 H2 p o (s1.trans s2) O2 (hI.iff hS.2.2.2.2.2)
end
end Fs

set_option maxHeartbeats 4000000
/-! The desk's answers. -/
namespace Fs
open PySem PySem.Spec PyProof.Rows L2
def KLV (K : PySem.W.Frag) (G : Hp) (v : V) (ks : List Ky) : Prop := ∃ a us, v = .ref a ∧ G a = some (.lst us) ∧ Keys K G us ks
theorem KLV.up {K : PySem.W.Frag} {G G' : Hp} (s : Same G G') {v : V} {ks : List Ky} (h : KLV K G v ks) : KLV K G' v ks := by
  obtain ⟨a, us, e, h1, h2⟩ := h
  exact ⟨a, us, e, s _ _ h1, h2.up s⟩
def PoursOk (kd : Kd) (ps : List (List Ky)) : Prop := (∀ ks ∈ ps, 1 ≤ ks.length ∧ ∀ k ∈ ks, KyOk kd k) ∧ ps.flatten.length ≤ 200
theorem pours_len : ∀ {ps : List (List Ky)}, (∀ ks ∈ ps, 1 ≤ ks.length) → ps.length ≤ ps.flatten.length
  | [], _ => Nat.le_refl _
  | k :: ps, h => by
    have := pours_len (ps := ps) fun x hx => h x (List.mem_cons_of_mem _ hx)
    have := h k (by simp)
    rw [List.flatten_cons, List.length_append, List.length_cons]
    omega
theorem flat_take {ps : List (List Ky)} {i : Nat} {h : List Ky} (e : ps[i]? = some h) : (ps.take (i + 1)).flatten = (ps.take i).flatten ++ h ∧ ps.flatten = (ps.take i).flatten ++ (h ++ (ps.drop (i + 1)).flatten) := by
  constructor
  · rw [take_snoc e, List.flatten_append]
    simp
  · have e2 : ps = ps.take i ++ (h :: ps.drop (i + 1)) := by rw [← drop_at e, List.take_append_drop]
    conv => lhs; rw [e2]
    rw [List.flatten_append, List.flatten_cons]
section
variable {P : Program} {w : World} {K : PySem.W.Frag} {mg : Str → Option Value} {base : Heap} {T : TL}
def sp_Desk_pour_so_far (K : PySem.W.Frag) (T : TL) : Sp := fun vs H Q _ => ∃ (G : Hp) (l : List (Addr × HO)) (x dx pk pp : Addr) (kd : Kd) (b : Nat) (hv : List V) (ps : List (List Ky)), vs = [.ref x] ∧ Own T G H ((x, dkO K dx kd b pk pp) :: (pp, .lst hv) :: l) ∧ Each (KLV K G) hv ps ∧ PoursOk kd ps ∧ 2 ≤ b ∧ b ≤ 64 ∧
  ∀ G' H' p ka po dx2 p1 p2 d us us2 hv2 rows hs b', Same G G' → Own T G' H' ((po, poO K dx2 p1 p2 d) :: (p1, .lst us2) :: (p2, .lst hv2) :: (x, dkO K dx kd b pk pp) :: (pp, .lst hv) :: l) → SqT K G' p [.ref ka, .ref po] → SqL K G' ka us → Keys K G' us ps.flatten → Rows K G' us2 rows → SpOk (klt ps.flatten) b' ps.flatten.length rows →
    Each (LV G') hv2 hs → HeapsOk rows.length hs → hs.map List.length = lensOf ps [] → Q (.ref p) H'
theorem sc_Desk_pour_so_far : FnScope ["self", "keys", "heap", "rows", "pour", "at"] ["self"] (defScope s_Desk_pour_so_far) := ⟨rfl, rfl, rfl, by decide +kernel, rfl, by decide +kernel, by decide +kernel⟩
theorem mcal_Desk_pour_so_far (t : Ctx K mg base T) : MCal P w K mg base 5 (He.ga K "Desk") "pour_so_far" ["self"] (sp_Desk_pour_so_far K T) := by
  refine mcal_of t.d_Desk_pour_so_far t.k_Desk t.m_Desk_pour_so_far sc_Desk_pour_so_far (fun _ _ _ _ _ _ us hl => match us, hl with | [_], _ => rfl) (fun vs H Q E h => ?_) (fun cdv A outer s H vs Q E hr h => ?_)
  · obtain ⟨G, l, x, dx, pk, pp, kd, b, hv, ps, rfl, _⟩ := h
    rfl
  · obtain ⟨G, l, x, dx, pk, pp, kd, b, hv, ps, rfl, O, hP, ⟨hp1,hp2⟩, hb, hb2, q⟩ := h
    refine ⟨_, (pss_cons (ps_set (i := 1) sc_Desk_pour_so_far.nd rfl (.inl rfl) (pe_lst pa_nil))
      (pss_cons (ps_for PassesOwn.never rfl (piL (fldK (pv 0) (by rfl))) (pg_name (i := 2) sc_Desk_pour_so_far.nd rfl (.inl rfl))
        (pss_one (ps_expr (bmK PySem.F.plainAttrs_list PySem.F.slot_list_extend PySem.F.type_list_extend mt_extend (pv 1) (pa_cons (pv 2) pa_nil)))))
      (pss_cons (ps_set (i := 3) sc_Desk_pour_so_far.nd rfl (.inl rfl) (pe_ix ixT (pe_cal (cal_spelled t) hr (pa_cons (fldK (pv 0) (by rfl)) (pa_cons (pv 1) (pa_cons (fldK (pv 0) (by rfl)) pa_nil)))) pe_int (fun _ _ => rfl)))
      (pss_cons (ps_set (i := 4) sc_Desk_pour_so_far.nd rfl (.inl rfl) (pe_kcal0 (kcal_Pour t) hr))
      (pss_cons (ps_set (i := 5) sc_Desk_pour_so_far.nd rfl (.inl rfl) pe_int)
      (pss_cons (ps_for PassesOwn.never rfl (piL (fldK (pv 0) (by rfl))) (pg_name (i := 2) sc_Desk_pour_so_far.nd rfl (.inl rfl))
        (pss_cons (ps_expr (pe_mcal (pv 4) (mcal_Pour_pour t) hr (pa_cons (pe_slice slL (pv 3) (po_some (pv 5)) (po_some (pe_op op_add (pv 5) (pe_callB lenK (by rfl) t.len (by decide +kernel) (pa_cons (pv 2) pa_nil))))) pa_nil)))
        (pss_one (ps_aug (i := 5) sc_Desk_pour_so_far.nd rfl (.inl rfl) (pe_callB lenK (by rfl) t.len (by decide +kernel) (pa_cons (pv 2) pa_nil)) ip_add))))
      (pss_one (ps_ret (pe_tup (pa_cons (pv 1) (pa_cons (pv 4) pa_nil))))))))))), ?_⟩
    have hpl := pours_len fun ks h => (hp1 ks h).1
    have hvl := hP.1
    refine ⟨Nat.zero_le _, fun ka n0 => ?_⟩
    have O1 := own_new (o := .lst []) O n0
    refine ⟨.ref x, rfl, x, _, dx, _, .ref pp, rfl, O1.l1, t.k_Desk, t.n_Desk_own_pours, rfl, pp, rfl, ⟨_, .inl (.inl O1.l2)⟩, for_it (walk_list (xs := hv)) (fun i σ H' => ∃ y2 us, σ = [some (.ref x), some (.ref ka), y2, none, none, none] ∧ Own T G H' ((ka, .lst us) :: (x, dkO K dx kd b pk pp) :: (pp, .lst hv) :: l) ∧ Keys K G us (ps.take i).flatten) ⟨none, [], rfl, O1, Each.nil⟩ (fun i σ H' _ ⟨_, _, _, O2, _⟩ => .inl (.inl O2.l2)) (fun i v σ H2 H3 hi ⟨y2, us, e, O2, hK⟩ hy => ?_) (fun σ H2 ⟨y2, us, e, O2, hK⟩ => ?_)⟩
    · subst e
      obtain ⟨rfl, hy⟩ := hy
      obtain ⟨h, eh, ha, hus, rfl, hga, hhk⟩ := hP.at_v hy
      obtain ⟨f1, f2⟩ := flat_take eh
      have hlen : (ps.take i).flatten.length + h.length ≤ 200 := by
        have := congrArg List.length f2
        rw [List.length_append, List.length_append] at this
        omega
      have := hK.1
      have := hhk.1
      refine ⟨.ref ka, rfl, .inl ⟨rfl, _, .inl (.inl O2.l0)⟩, .ref ha, rfl, ka, ha, us, hus, rfl, rfl, O2.l0, O2.sub _ _ hga, sz (by omega), some (.ref ha), us ++ hus, rfl, own_set O2 0 rfl, ?_⟩
      rw [f1]
      exact hK.app hhk
    subst e
    rw [hvl, List.take_length] at hK
    have s1 := O2.gup
    have O3 := O2.frz
    have hka : SqL K (upd G ka (.lst us)) ka us := .inl (.inl upd_same)
    have hK1 := hK.up s1
    generalize upd G ka (.lst us) = G1 at s1 O3 hka hK1
    have hkok : ∀ k ∈ ps.flatten, KyOk kd k := fun k hk => by
      obtain ⟨ks, h1, h2⟩ := List.mem_flatten.mp hk
      exact (hp1 ks h1).2 k h2
    refine ⟨.ref x, rfl, x, _, dx, _, .str kd.s, rfl, O3.l0, t.k_Desk, t.n_Desk_kind, rfl, .ref ka, rfl, .ref x, rfl, x, _, dx, _, nv b, rfl, O3.l0, t.k_Desk, t.n_Desk_base, rfl, G1, _, ka, kd, us, ps.flatten, b, rfl, O3, hka, hK1, hkok, by omega, hb, hb2, fun G4 H4 p4 rl us' rows b' s4 O4 hp4 hrl hR hS => ?_⟩
    refine ⟨p4, _, _, _, rfl, rfl, O4.tup hp4, atI_nat (j := 1) rfl, ?_⟩
    refine fun po dx2 npo ndx ne => ?_
    have O5 := own_new (o := .ins (He.ga K "Pour") dx2 []) (own_new (o := .own po) O4 ndx) (by rw [upd_ne ne.symm]; exact npo)
    refine ⟨G4, _, po, dx2, rfl, O5, fun H6 p1 p2 O6 => ⟨rfl, ?_⟩⟩
    have O6 : Own T G4 H6 ((po, poO K dx2 p1 p2 0) :: (p1, .lst []) :: (p2, .lst []) :: (x, dkO K dx kd b pk pp) :: (pp, .lst hv) :: l) := by
      have z : Own T G4 H6 ((dx2, .own po) :: (po, poO K dx2 p1 p2 0) :: (p1, .lst []) :: (p2, .lst []) :: (x, dkO K dx kd b pk pp) :: (pp, .lst hv) :: l) := O6.perm (List.perm_middle (l₁ := [(po, poO K dx2 p1 p2 0), (p1, .lst []), (p2, .lst [])]))
      exact z.drop
    have hrn : rows.length = ps.flatten.length := hS.1
    have husl := hR.1
    refine ⟨.ref x, rfl, x, _, dx, _, .ref pp, rfl, O6.l3, t.k_Desk, t.n_Desk_own_pours, rfl, pp, rfl, ⟨_, .inl (.inl O6.l4)⟩, for_it (walk_list (xs := hv)) (fun i σ H' => ∃ y2 G' d us2 hv2 hs, σ = [some (.ref x), some (.ref ka), y2, some (.ref rl), some (.ref po), some (nv (ps.take i).flatten.length)] ∧ Same G4 G' ∧ Own T G' H' ((po, poO K dx2 p1 p2 d) :: (p1, .lst us2) :: (p2, .lst hv2) :: (x, dkO K dx kd b pk pp) :: (pp, .lst hv) :: l) ∧ Rows K G' us2 (rows.take (ps.take i).flatten.length) ∧ Each (LV G') hv2 hs ∧ HeapsOk (ps.take i).flatten.length hs ∧ hs.map List.length = lensOf (ps.take i) []) ⟨y2, G4, 0, [], [], [], rfl, Same.refl _, O6, Each.nil, Each.nil, ⟨(fun h hh => nomatch hh), rfl, (fun h hh => nomatch hh)⟩, rfl⟩ (fun i σ H' _ ⟨_, _, _, _, _, _, _, _, O7, _⟩ => .inl (.inl O7.l4)) (fun i v σ H7 H8 hi ⟨y2, G', d, us2, hv2, hs, e, s, O7, hR2, hE, hH, hL⟩ hy => ?_) (fun σ H7 ⟨y2, G', d, us2, hv2, hs, e, s, O7, hR2, hE, hH, hL⟩ => ?_)⟩
    · subst e
      obtain ⟨rfl, hy⟩ := hy
      obtain ⟨h, eh, ha, hus, rfl, hga, hhk⟩ := hP.at_v hy
      obtain ⟨f1, f2⟩ := flat_take eh
      have sG := (s1.trans s4).trans s
      have hhl := hhk.1
      have h1 := (hp1 h (List.mem_of_getElem? eh)).1
      have hfl : (ps.take i).flatten.length + h.length ≤ rows.length := by
        have := congrArg List.length f2
        rw [List.length_append, List.length_append] at this
        omega
      generalize hat : (ps.take i).flatten.length = at' at hR2 hH hfl
      refine ⟨.ref po, rfl, po, dx2, _, rfl, O7.l0, rfl, .ref rl, rfl, nv at', by rw [← hat]; rfl, _, rfl, nv at', by rw [← hat]; rfl, .ref ha, rfl, ha, hus, rfl, .inl (O7.seq (.inl (.inl (sG _ _ hga)))), _, _, rfl, rfl, _, rfl, rl, us', rfl, O7.seq (s.seq hrl), fun pc nc => ?_⟩
      have ecut : cutV us' (some (at' : Int)) (some ((at' : Int) + (hus.length : Nat))) = (us'.drop at').take h.length := by
        rw [show (at' : Int) + (hus.length : Nat) = ((at' + h.length : Nat) : Int) by omega, cut_ab (by omega) (by omega), show at' + h.length - at' = h.length by omega]
      rw [ecut]
      have O8 := own_new (o := .lst ((us'.drop at').take h.length)) O7 nc
      have s8 := O8.gup
      have ntl : ((rows.drop at').take h.length).length = h.length := by rw [List.length_take, List.length_drop]; omega
      have rtl : (rows.take at').length = at' := by rw [List.length_take]; omega
      refine ⟨_, _, po, dx2, p1, p2, pc, d, us2, hv2, (us'.drop at').take h.length, rows.take at', (rows.drop at').take h.length, hs, rfl, O8.frz, hR2.up s8, hE.mono fun _ _ => LV.up s8, by rw [rtl]; exact hH, .inl (.inl upd_same), Rows.up (s.trans s8) ((hR.drop at').take h.length), by rw [ntl]; exact h1, by rw [rtl, ntl]; omega, fun G9 H9 d' hv' hs' z s9 O9 hE9 hH9 hL9 => ?_⟩
      rw [rtl, ntl] at hH9
      rw [ntl] at hL9
      have hn1 : (ps.take (i + 1)).flatten.length = at' + h.length := by rw [f1, List.length_append, hat]
      refine ⟨nv at', by rw [← hat]; rfl, .ref ha, rfl, ha, hus, rfl, .inl (O9.seq (.inl (.inl ((sG.trans (s8.trans s9)) _ _ hga)))), _, _, rfl, rfl, some (.ref ha), G9, d', us2 ++ (us'.drop at').take h.length, hv', hs', ?_, (s.trans s8).trans s9, O9, ?_, hE9, by rw [hn1]; exact hH9, ?_⟩
      · rw [hn1, ← hhl]
        rfl
      · rw [hn1, List.take_add]
        exact (hR2.up (s8.trans s9)).app (Rows.up ((s.trans s8).trans s9) ((hR.drop at').take h.length))
      · rw [hL9, take_snoc eh, lensOf_snoc, hL]
    · subst e
      rw [hvl, List.take_length] at hR2 hH hL
      rw [← hrn, List.take_length] at hR2
      refine ⟨.ref ka, rfl, .ref po, rfl, two_ok, fun p np => ?_⟩
      have O8 := own_new (o := .tup [.ref ka, .ref po]) O7 np
      have s8 := O8.gup
      have sE := (s4.trans s).trans s8
      exact q _ _ p ka po dx2 p1 p2 d us us2 hv2 rows hs b' (s1.trans sE) O8.frz (.inl (.inl upd_same)) (sE.seq hka) (hK1.up sE) (hR2.up s8) hS (hE.mono fun _ _ => LV.up s8) (by rw [hrn]; exact hH) hL
theorem ans_poured (ks : List Ky) (ps : List (List Ky)) : ans ks ps (.ask "poured") = kwds (pick ps.flatten (ordK ps.flatten)) := by
  simp only [ans]
  rw [if_neg (by decide), if_neg (by decide), if_neg (by decide), if_neg (by decide)]
  rfl
abbrev AskP (w : Str) : Prop := w = "poured" ∨ w = "heaps"
def sp_Desk_poured_answer (K : PySem.W.Frag) (T : TL) : Sp := fun vs H Q _ => ∃ (G : Hp) (l : List (Addr × HO)) (x dx pk pp : Addr) (kd : Kd) (b : Nat) (wd : Str) (hv : List V) (ks : List Ky) (ps : List (List Ky)), vs = [.ref x, .str wd] ∧ AskP wd ∧ Own T G H ((x, dkO K dx kd b pk pp) :: (pp, .lst hv) :: l) ∧ Each (KLV K G) hv ps ∧ PoursOk kd ps ∧ 2 ≤ b ∧ b ≤ 64 ∧
  ∀ G' H', Same G G' → Own T G' H' ((x, dkO K dx kd b pk pp) :: (pp, .lst hv) :: l) → Q (.str (ans ks ps (.ask wd))) H'
theorem sc_Desk_poured_answer : FnScope ["self", "word", "keys", "pour", "place"] ["self", "word"] (defScope s_Desk_poured_answer) := ⟨rfl, rfl, rfl, by decide +kernel, rfl, by decide +kernel, by decide +kernel⟩
theorem mcal_Desk_poured_answer (t : Ctx K mg base T) : MCal P w K mg base 6 (He.ga K "Desk") "poured_answer" ["self", "word"] (sp_Desk_poured_answer K T) := by
  refine mcal_of t.d_Desk_poured_answer t.k_Desk t.m_Desk_poured_answer sc_Desk_poured_answer (fun _ _ _ _ _ _ us hl => match us, hl with | [_, _], _ => rfl) (fun vs H Q E h => ?_) (fun cdv A outer s H vs Q E hr h => ?_)
  · obtain ⟨G, l, x, dx, pk, pp, kd, b, wd, hv, ks, ps, rfl, _⟩ := h
    rfl
  · obtain ⟨G, l, x, dx, pk, pp, kd, b, wd, hv, ks, ps, rfl, hw, O, hP, hp, hb, hb2, q⟩ := h
    refine ⟨_, (pss_cons (ps_asg (pe_mcal0 (pv 0) (mcal_Desk_pour_so_far t) hr) (pg_tup (by rfl) (pgs_cons (pg_name (i := 2) sc_Desk_poured_answer.nd rfl (.inr rfl)) (pgs_cons (pg_name (i := 3) sc_Desk_poured_answer.nd rfl (.inl rfl)) pgs_nil))))
      (pss_cons (ps_if (pt_cmpR op_eq (pv 1) pe_str (nomark _))
        (pss_one (ps_ret (pe_cal (cal_numbers_word t) hr (pa_cons (pe_mcal0 (pv 3) (mcal_Pour_heaps t) hr) pa_nil))))
        pss_nil)
      (pss_one (ps_ret (pe_mcal (pv 0) (mcal_Desk_written t) hr (pa_cons (pe_lc (own := [("place", 4)]) (g := gName 4) (tt := tYes) (by rfl) sc_Desk_poured_answer.nd (piL (pe_mcal0 (pv 3) (mcal_Pour_order t) hr)) (blkOk_by (own := [("place", 4)]) (N := ["self", "word", "keys", "pour", "place"]) (sc := defScope s_Desk_poured_answer) (by decide +kernel)) (fun _ _ _ _ _ => (pg_name (i := 4) sc_Desk_poured_answer.nd rfl (.inl rfl))) (fun _ _ _ _ _ => pts_nil) (fun _ _ _ _ _ => (pe_ix ixL (pv 2) (pv 4) (fun _ _ => rfl)))) pa_nil)))))), ?_⟩
    have hkok : ∀ k ∈ ps.flatten, KyOk kd k := fun k hk => by
      obtain ⟨ks, h1, h2⟩ := List.mem_flatten.mp hk
      exact (hp.1 ks h1).2 k h2
    have hp2 := hp.2
    refine ⟨.ref x, rfl, x, dx, _, rfl, O.l0, rfl, G, l, x, dx, pk, pp, kd, b, hv, ps, rfl, O, hP, hp, hb, hb2, fun G1 H1 p ka po dx2 p1 p2 d us us2 hv2 rows hs b' s1 O1 hpt hka hK hR hS hE hH hL => ?_⟩
    refine ⟨p, _, rfl, O1.tup hpt, rfl, .ref ka, _, rfl, .ref po, _, rfl, rfl, ?_⟩
    have hrn : rows.length = ps.flatten.length := hS.1
    refine ⟨.str wd, rfl, rfl, _, rfl, ?_⟩
    rcases hw with rfl | rfl
    · rw [decide_eq_false (by decide)]
      refine iteF ?_
      refine ⟨.ref x, rfl, x, dx, _, rfl, O1.l3, rfl, ?_⟩
      refine ⟨.ref po, rfl, po, dx2, _, rfl, O1.l0, rfl, G1, _, po, dx2, p1, p2, d, us2, rows, rfl, O1, hR, by omega, fun G2 H2 pa o s2 O2 hI => ?_⟩
      rw [hrn] at hI
      have hI := hI.iff hS.2.2.2.2.2
      have eo := ordK_eq hI
      have sm : ∀ i ∈ o, i < ps.flatten.length := fun i hi => hI.small hi
      have O3 := O2.frz
      have s3 := O2.gup
      have hpa : NL K (upd G2 pa (.lst (o.map nv))) pa o := .inl (.inl upd_same)
      have hka3 := s3.seq (s2.seq hka)
      have hK3 := (hK.up s2).up s3
      generalize upd G2 pa (.lst (o.map nv)) = G3 at s3 O3 hpa hka3 hK3
      refine ⟨pa, rfl, ⟨_, O3.seq hpa⟩, fun D nD => lc_valS [some (.ref x), some (.str "poured"), some (.ref ka), some (.ref po), none] rfl (ys := o) walk_list O3 nD (by simp) (by rw [List.length_map, hI.len]; omega) (fun i => us.getD i .non) (fun H' s' => s'.seq hpa) (fun i v j H4 H5 acc Qc hi ej O4 hy hQ => ?_) (fun H4 O4 => ?_)⟩
      · obtain ⟨rfl, hy⟩ := hy
        obtain ⟨j', ej', rfl⟩ := map_at hy
        obtain rfl : j' = j := Option.some.inj (ej'.symm.trans ej)
        have hj := sm j' (List.mem_of_getElem? ej)
        have hj2 : j' < us.length := by rw [hK.1]; exact hj
        exact ⟨rfl, .ref ka, rfl, nv j', rfl, ka, us, _, _, rfl, rfl, O4.seq hka3, atI_v (by simp [List.getD, hj2] : us[j']? = some (us.getD j' .non)), hQ _ O4⟩
      · have O5 := O4.frz
        have O6 := O5.drop.drop.drop
        refine ⟨_, _, x, dx, pk, pp, D, kd, b, _, pick ps.flatten o, rfl, O6, .inl (.inl upd_same), (pick_each hK3 sm).up O4.gup, pick_ok hkok sm, by simp only [pick, List.length_map]; rw [hI.len]; omega, fun H7 O7 => ?_⟩
        have := q _ H7 (((s1.trans s2).trans s3).trans O4.gup) O7
        rw [ans_poured, ← eo] at this
        exact this
    · rw [decide_eq_true (by rfl)]
      refine iteT ⟨.ref po, rfl, po, dx2, _, rfl, O1.l0, rfl, G1, _, po, dx2, p1, p2, d, us2, hv2, hs, rfl, O1, hE, ?_, fun H2 pa O2 => ?_⟩
      · have := pos_len hs hH.2.2
        have := hH.2.1
        omega
      · refine ⟨_, _, pa, hs.map List.length, rfl, O2.frz, .inl (.inl upd_same), ?_, fun n hn => ?_, fun H3 O3 => ?_⟩
        · rw [List.length_map]
          have := pos_len hs hH.2.2
          have := hH.2.1
          omega
        · have : ∀ L : List Nat, n ∈ L → n ≤ L.sum := by
            intro L
            induction L with
            | nil => intro h; cases h
            | cons a L ih =>
              intro h
              rw [List.sum_cons]
              rcases List.mem_cons.mp h with rfl | h
              · omega
              · have := ih h; omega
          have := this _ hn
          have := hH.2.1
          omega
        · have := q _ H3 (s1.trans O2.gup) O3.drop.drop.drop
          rw [hL]
          exact this
/-- the answers out of the order -/
abbrev AskO (w : Str) : Prop := w = "order" ∨ w = "back" ∨ w = "rings" ∨ w = "walk"
def sp_Desk_order_answer (K : PySem.W.Frag) (T : TL) : Sp := fun vs H Q _ => ∃ (G : Hp) (l : List (Addr × HO)) (x dx pk pp : Addr) (kd : Kd) (b : Nat) (wd : Str) (us : List V) (ks : List Ky) (ps : List (List Ky)), vs = [.ref x, .str wd] ∧ AskO wd ∧ Own T G H ((x, dkO K dx kd b pk pp) :: l) ∧ SqL K G pk us ∧ Keys K G us ks ∧ (∀ k ∈ ks, KyOk kd k) ∧ ks.length ≤ 200 ∧ 2 ≤ b ∧ b ≤ 64 ∧
  ∀ G' H', Same G G' → Own T G' H' ((x, dkO K dx kd b pk pp) :: l) → Q (.str (ans ks ps (.ask wd))) H'
theorem small18 {o : List Nat} {n : Nat} (h : ∀ p ∈ o, p < n) (hn : n ≤ 200) : ∀ p ∈ o, p < 10 ^ 18 := fun p hp => by have := h p hp; omega
theorem moves_len : ∀ (R : List (List Nat)), (∀ r ∈ R, 1 ≤ r.length ∧ r.length ≤ 200) → (R.map movesOf).flatten.length ≤ R.length * 201
  | [], _ => Nat.zero_le _
  | r :: R, h => by
    have := moves_len R fun x hx => h x (List.mem_cons_of_mem _ hx)
    have h1 := h r (by simp)
    rw [List.map_cons, List.flatten_cons, List.length_append, movesOf_len h1.1, List.length_cons, Nat.add_mul]
    omega
theorem sc_Desk_order_answer : FnScope ["self", "word", "order", "ring", "move"] ["self", "word"] (defScope s_Desk_order_answer) := ⟨rfl, rfl, rfl, by decide +kernel, rfl, by decide +kernel, by decide +kernel⟩
theorem mcal_Desk_order_answer (t : Ctx K mg base T) : MCal P w K mg base 5 (He.ga K "Desk") "order_answer" ["self", "word"] (sp_Desk_order_answer K T) := by
  refine mcal_of t.d_Desk_order_answer t.k_Desk t.m_Desk_order_answer sc_Desk_order_answer (fun _ _ _ _ _ _ us hl => match us, hl with | [_, _], _ => rfl) (fun vs H Q E h => ?_) (fun cdv A outer s H vs Q E hr h => ?_)
  · obtain ⟨G, l, x, dx, pk, pp, kd, b, wd, us, ks, ps, rfl, _⟩ := h
    rfl
  · obtain ⟨G, l, x, dx, pk, pp, kd, b, wd, us, ks, ps, rfl, hw, O, hpk, hk, ho, hn, hb, hb2, q⟩ := h
    refine ⟨_, (pss_cons (ps_set (i := 2) sc_Desk_order_answer.nd rfl (.inl rfl) (pe_mcal0 (pv 0) (mcal_Desk_own_order t) hr))
      (pss_cons (ps_if (pt_cmpR op_eq (pv 1) pe_str (nomark _))
        (pss_one (ps_ret (pe_cal (cal_numbers_word t) hr (pa_cons (pv 2) pa_nil))))
        pss_nil)
      (pss_cons (ps_if (pt_cmpR op_eq (pv 1) pe_str (nomark _))
        (pss_one (ps_ret (pe_cal (cal_numbers_word t) hr (pa_cons (pe_cal (cal_back_of t) hr (pa_cons (pv 2) pa_nil)) pa_nil))))
        pss_nil)
      (pss_cons (ps_if (pt_cmpR op_eq (pv 1) pe_str (nomark _))
        (pss_one (ps_ret (pe_cal (cal_several t) hr (pa_cons (pe_lc (own := [("ring", 3)]) (g := gName 3) (tt := tYes) (by rfl) sc_Desk_order_answer.nd (piL (pe_cal (cal_rings t) hr (pa_cons (pv 2) pa_nil))) (blkOk_by (own := [("ring", 3)]) (N := ["self", "word", "order", "ring", "move"]) (sc := defScope s_Desk_order_answer) (by decide +kernel)) (fun _ _ _ _ _ => (pg_name (i := 3) sc_Desk_order_answer.nd rfl (.inl rfl))) (fun _ _ _ _ _ => pts_nil) (fun _ _ _ _ _ => (pe_cal (cal_numbers_word t) hr (pa_cons (pv 3) pa_nil)))) pa_nil))))
        pss_nil)
      (pss_one (ps_ret (pe_cal (cal_several t) hr (pa_cons (pe_lc (own := [("move", 4)]) (g := gName 4) (tt := tYes) (by rfl) sc_Desk_order_answer.nd (piL (pe_cal (cal_all_moves t) hr (pa_cons (pe_kcal (kcal_RingWalk t) hr (pa_cons (fldK (pv 0) (by rfl)) (pa_cons (pv 2) pa_nil))) pa_nil))) (blkOk_by (own := [("move", 4)]) (N := ["self", "word", "order", "ring", "move"]) (sc := defScope s_Desk_order_answer) (by decide +kernel)) (fun _ _ _ _ _ => (pg_name (i := 4) sc_Desk_order_answer.nd rfl (.inl rfl))) (fun _ _ _ _ _ => pts_nil) (fun _ _ _ _ _ => (pe_cal (cal_move_word t) hr (pa_cons (pv 4) pa_nil)))) pa_nil)))))))), ?_⟩
    refine ⟨.ref x, rfl, x, dx, _, rfl, O.l0, rfl, G, l, x, dx, pk, pp, kd, b, us, ks, rfl, O, hpk, hk, ho, hn, hb, hb2, fun G1 H1 p o s1 O1 hI => ?_⟩
    have eo := ordK_eq hI
    have s2 := O1.gup
    have O2 := O1.frz
    have hp : GL (upd G1 p (.lst (o.map nv))) p o := upd_same
    generalize upd G1 p (.lst (o.map nv)) = G2 at s2 O2 hp
    have sG := s1.trans s2
    have hol := hI.len
    have hperm : o.Perm (List.range o.length) := by rw [hol]; exact hI.1
    have hsm : ∀ i ∈ o, i < o.length := fun i hi => by rw [hol]; exact hI.small hi
    have hon : o.length ≤ 200 := by omega
    refine ⟨.str wd, rfl, rfl, _, rfl, ?_⟩
    rcases hw with rfl | rfl | rfl | rfl
    · rw [decide_eq_true (by rfl)]
      refine iteT ⟨.ref p, rfl, G2, _, p, o, rfl, O2, hp.nl, by omega, small18 hsm hon, fun H3 O3 => ?_⟩
      have := q _ _ sG O3
      rw [eo]
      exact this
    · rw [decide_eq_false (by decide)]
      refine iteF ⟨.str "back", rfl, rfl, _, rfl, ?_⟩
      rw [decide_eq_true (by rfl)]
      refine iteT ⟨.ref p, rfl, G2, _, p, o, rfl, O2, hp, hperm, hon, fun H3 pb O3 => ?_⟩
      refine ⟨_, _, pb, _, rfl, O3.frz, .inl (.inl upd_same), by rw [List.length_map, List.length_range]; omega, fun n hn => ?_, fun H4 O4 => ?_⟩
      · obtain ⟨k, hk2, rfl⟩ := List.mem_map.mp hn
        have : o.idxOf k < o.length := List.idxOf_lt_length_of_mem (hperm.mem_iff.mpr hk2)
        omega
      · have := q _ _ (sG.trans O3.gup) O4
        rw [eo]
        exact this
    · rw [decide_eq_false (by decide)]
      refine iteF ⟨.str "rings", rfl, rfl, _, rfl, ?_⟩
      rw [decide_eq_false (by decide)]
      refine iteF ⟨.str "rings", rfl, rfl, _, rfl, ?_⟩
      rw [decide_eq_true (by rfl)]
      refine iteT ?_
      refine ⟨.ref p, rfl, G2, _, p, o, rfl, O2, hp, hperm, hon, fun G3 H3 pf fv s3 O3 hF => ?_⟩
      have s4 := O3.gup
      have hpf : SqL K (upd G3 pf (.lst fv)) pf fv := .inl (.inl upd_same)
      have hF4 : Each (LV (upd G3 pf (.lst fv))) fv (rgs (stp o) o.length) := hF.mono fun _ _ => LV.up s4
      have O4 := O3.frz
      generalize upd G3 pf (.lst fv) = G4 at s4 O4 hpf hF4
      have hrl := rgs_len (f := stp o) o.length
      refine ⟨pf, rfl, ⟨_, O4.seq hpf⟩, fun D nD => lc_valS [some (.ref x), some (.str "rings"), some (.ref p), none, none] rfl (ys := rgs (stp o) o.length) walk_list O4 nD hF4.1.symm (by rw [hF4.1]; omega) (fun r => .str (nword r)) (fun H' s' => s'.seq hpf) (fun i v r H5 H6 acc Qc hi er O5 hy hQ => ?_) (fun H5 O5 => ?_)⟩
      · obtain ⟨rfl, hy⟩ := hy
        obtain ⟨ra, rfl, hra⟩ := hF4.2 i v r hy er
        have hm := List.mem_of_getElem? er
        have hr1 := rgs_ring (stp_small hperm) (stp_inj hperm) o.length (Nat.le_refl _) r hm
        exact ⟨rfl, .ref ra, rfl, G4, _, ra, r, rfl, O5, hra.nl, by omega, small18 (rgs_small (stp_small hperm) _ (Nat.le_refl _) r hm) hon, fun H7 O7 => hQ _ O7⟩
      · have O6 := O5.drop
        refine ⟨D, (rgs (stp o) o.length).map nword, rfl, .inl (.inl (by rw [O5.l0, List.map_map]; rfl)), ?_, ?_⟩
        · have hsum := len_sum (k := 5000) (ws := (rgs (stp o) o.length).map nword) fun z hz => by
            obtain ⟨r, hr, rfl⟩ := List.mem_map.mp hz
            have hr1 := rgs_ring (stp_small hperm) (stp_inj hperm) o.length (Nat.le_refl _) r hr
            have hr2 := rgs_small (stp_small hperm) _ (Nat.le_refl _) r hr
            show (wds " " (r.map fun n : Nat => iw (n : Int))).length ≤ 5000
            rw [wds_some (by rw [List.length_map]; omega), str_len, join_cps]
            have := joinL_len (S := cps (" " : Str)) (k := 19) (ps := (r.map fun n : Nat => iw (n : Int)).map cps) fun p hp => by
              obtain ⟨z, hz, rfl⟩ := List.mem_map.mp hp
              obtain ⟨n, hn, rfl⟩ := List.mem_map.mp hz
              rw [← str_len]
              exact (iw_int (n := (n : Int)) (small18 hr2 hon n hn)).2
            rw [List.length_map, List.length_map, cps_sp, List.length_singleton] at this
            rw [cps_sp]
            omega
          rw [List.length_map] at hsum ⊢
          omega
        · have := q _ _ (((sG.trans s3).trans s4)) O6
          rw [eo]
          exact this
    · rw [decide_eq_false (by decide)]
      refine iteF ⟨.str "walk", rfl, rfl, _, rfl, ?_⟩
      rw [decide_eq_false (by decide)]
      refine iteF ⟨.str "walk", rfl, rfl, _, rfl, ?_⟩
      rw [decide_eq_false (by decide)]
      refine iteF ?_
      refine ⟨.ref x, rfl, x, _, dx, _, .ref pk, rfl, O2.l0, t.k_Desk, t.n_Desk_own_keys, rfl, .ref p, rfl, fun xw dxw nxw ndxw nw => ?_⟩
      have O3 := own_new (o := .ins (He.ga K "RingWalk") dxw []) (own_new (o := .own xw) O2 ndxw) (by rw [upd_ne nw.symm]; exact nxw)
      refine ⟨G2, _, xw, dxw, pk, p, us, o, rfl, O3, sG.seq hpk, hp, by rw [hk.1]; exact hI.1, by rw [hk.1]; exact hn, fun G4 H4 p1 p2 mv s4 O4 hm => ⟨rfl, ?_⟩⟩
      have hmok : ∀ m ∈ allMoves o, MvOk us.length m := by
        rw [hk.1, ← hol]
        exact allMoves_ok hperm
      have hml : (allMoves o).length ≤ 200 * 201 := by
        refine Nat.le_trans (moves_len _ fun r hr => ?_) (Nat.mul_le_mul_right 201 (Nat.le_trans (rgs_len _) hon))
        have := rgs_ring (stp_small hperm) (stp_inj hperm) o.length (Nat.le_refl _) r hr
        omega
      refine ⟨G4, _, xw, dxw, p1, p2, us, mv, allMoves o, rfl, O4, hm, hmok, by rw [hm.1]; omega, fun H5 pm O5 => ?_⟩
      have s6 := O5.gup
      have hpm : SqL K (upd G4 pm (.lst mv)) pm mv := .inl (.inl upd_same)
      have hm6 := Moves.up s6 hm
      have O6 := O5.frz.drop
      generalize upd G4 pm (.lst mv) = G6 at s6 O6 hpm hm6
      refine ⟨pm, rfl, ⟨_, O6.seq hpm⟩, fun D nD => lc_valS [some (.ref x), some (.str "walk"), some (.ref p), none, none] rfl (ys := allMoves o) walk_list O6 nD hm6.1.symm (by rw [hm6.1]; omega) (fun m => .str (mword m)) (fun H' s' => s'.seq hpm) (fun i v m H7 H8 acc Qc hi em O7 hy hQ => ?_) (fun H7 O7 => ?_)⟩
      · obtain ⟨rfl, hy⟩ := hy
        have hmk := hmok m (List.mem_of_getElem? em)
        have hmk2 : MvOk 1000 m := by
          have hu : us.length ≤ 200 := by rw [hk.1]; exact hn
          cases m with
          | take p => have : p < us.length := hmk; show p < 1000; omega
          | move s p => have : s < us.length ∧ p < us.length := hmk; show s < 1000 ∧ p < 1000; omega
          | lay p => have : p < us.length := hmk; show p < 1000; omega
        exact ⟨rfl, v, rfl, G6, _, v, m, rfl, O7, hm6.2 i v m hy em, hmk2, fun H9 O9 => hQ _ O9⟩
      · refine ⟨D, (allMoves o).map mword, rfl, .inl (.inl (by rw [O7.l0, List.map_map]; rfl)), ?_, ?_⟩
        · have hsum := len_sum (k := 60) (ws := (allMoves o).map mword) fun z hz => by
            obtain ⟨m, hm, rfl⟩ := List.mem_map.mp hz
            have hmk := hmok m hm
            have hmk2 : MvOk 1000 m := by
              have hu : us.length ≤ 200 := by rw [hk.1]; exact hn
              cases m with
              | take p => have : p < us.length := hmk; show p < 1000; omega
              | move s p => have : s < us.length ∧ p < us.length := hmk; show s < 1000 ∧ p < 1000; omega
              | lay p => have : p < us.length := hmk; show p < 1000; omega
            obtain ⟨_, m2, m3⟩ := mparts_len hmk2
            rw [str_len, join_cps]
            have := joinL_len (S := cps (" " : Str)) (k := 19) (ps := (mparts m).map cps) fun p hp => by
              obtain ⟨z, hz, rfl⟩ := List.mem_map.mp hp
              rw [← str_len]
              exact m3 z hz
            rw [List.length_map, cps_sp, List.length_singleton] at this
            rw [cps_sp]
            omega
          rw [List.length_map] at hsum ⊢
          omega
        · have := q _ _ ((sG.trans s4).trans s6) O7.drop
          rw [eo]
          exact this
def sp_Desk_answer (K : PySem.W.Frag) (T : TL) : Sp := fun vs H Q _ => ∃ (G : Hp) (l : List (Addr × HO)) (x dx pk pp : Addr) (kd : Kd) (b : Nat) (us hv : List V) (ks : List Ky) (ps : List (List Ky)) (op : Op) (ma : Addr) (mv : List V), vs = [.ref x, .str op.w, .ref ma] ∧ Own T G H ((x, dkO K dx kd b pk pp) :: (pp, .lst hv) :: l) ∧ SqL K G pk us ∧ Keys K G us ks ∧ (∀ k ∈ ks, KyOk kd k) ∧ ks.length ≤ 200 ∧ 2 ≤ b ∧ b ≤ 64 ∧ Each (KLV K G) hv ps ∧ PoursOk kd ps ∧
  ((∃ z, op = .sort z ∧ Way z ∧ SqL K G ma [.str z]) ∨ ∃ z, op = .ask z ∧ Ask z) ∧
  ∀ G' H', Same G G' → Own T G' H' ((x, dkO K dx kd b pk pp) :: (pp, .lst hv) :: l) → Q (.str (ans ks ps op)) H'
theorem sc_Desk_answer : FnScope ["self", "word", "more", "way", "moves", "base", "rows"] ["self", "word", "more"] (defScope s_Desk_answer) := ⟨rfl, rfl, rfl, by decide +kernel, rfl, by decide +kernel, by decide +kernel⟩
theorem mcal_Desk_answer (t : Ctx K mg base T) : MCal P w K mg base 7 (He.ga K "Desk") "answer" ["self", "word", "more"] (sp_Desk_answer K T) := by
  refine mcal_of t.d_Desk_answer t.k_Desk t.m_Desk_answer sc_Desk_answer (fun _ _ _ _ _ _ us hl => match us, hl with | [_, _, _], _ => rfl) (fun vs H Q E h => ?_) (fun cdv A outer s H vs Q E hr h => ?_)
  · obtain ⟨G, l, x, dx, pk, pp, kd, b, us, hv, ks, ps, op, ma, mv, rfl, _⟩ := h
    rfl
  · obtain ⟨G, l, x, dx, pk, pp, kd, b, us, hv, ks, ps, op, ma, mv, rfl, O, hpk, hk, ho, hn, hb, hb2, hP, hp, hop, q⟩ := h
    refine ⟨_, (pss_cons (ps_if (pt_cmpR op_eq (pv 1) pe_str (nomark _))
        (pss_one (ps_ret (pe_mcal (pv 0) (mcal_Desk_written t) hr (pa_cons (pe_ix ixT (pe_cal (cal_ordered t) hr (pa_cons (pe_ix ixL (pv 2) pe_int (fun _ _ => rfl)) (pa_cons (fldK (pv 0) (by rfl)) (pa_cons (fldK (pv 0) (by rfl)) (pa_cons (fldK (pv 0) (by rfl)) pa_nil))))) pe_int (fun _ _ => rfl)) pa_nil))))
        pss_nil)
      (pss_cons (ps_if (pt_cmpR op_eq (pv 1) pe_str (nomark _))
        (pss_one (ps_never))
        pss_nil)
      (pss_cons (ps_if (pt_cmpR op_eq (pv 1) pe_str (nomark _))
        (pss_one (ps_never))
        pss_nil)
      (pss_cons (ps_if (pt_cmpR op_eq (pv 1) pe_str (nomark _))
        (pss_cons ps_never (pss_one ps_never))
        pss_nil)
      (pss_cons (ps_if (pt_cmpR inSeq (pv 1) (pe_tup (pa_cons pe_str (pa_cons pe_str pa_nil))) (by rfl))
        (pss_one (ps_ret (pe_mcal (pv 0) (mcal_Desk_poured_answer t) hr (pa_cons (pv 1) pa_nil))))
        pss_nil)
      (pss_one (ps_ret (pe_mcal (pv 0) (mcal_Desk_order_answer t) hr (pa_cons (pv 1) pa_nil))))))))), ?_⟩
    refine ⟨.str op.w, rfl, rfl, _, rfl, ?_⟩
    rcases hop with ⟨z, rfl, hz, hm⟩ | ⟨z, rfl, hz⟩
    · rw [decide_eq_true (by rfl)]
      refine iteT ?_
      refine ⟨.ref x, rfl, x, dx, _, rfl, O.l0, rfl, .ref ma, rfl, ma, _, _, _, rfl, rfl, O.seq hm, atI_nat (j := 0) rfl, .ref x, rfl, x, _, dx, _, .str kd.s, rfl, O.l0, t.k_Desk, t.n_Desk_kind, rfl, .ref x, rfl, x, _, dx, _, .ref pk, rfl, O.l0, t.k_Desk, t.n_Desk_own_keys, rfl, .ref x, rfl, x, _, dx, _, nv b, rfl, O.l0, t.k_Desk, t.n_Desk_base, rfl, ?_⟩
      refine ⟨G, _, pk, z, kd, us, ks, b, rfl, hz, O, hpk, hk, ho, hn, hb, hb2, fun G1 H1 p1 pr ol zz o s1 O1 hp1 hpr hI => ?_⟩
      have sm : ∀ i ∈ o, i < ks.length := fun i hi => hI.small hi
      refine ⟨p1, _, _, _, rfl, rfl, O1.tup hp1, atI_nat (j := 0) rfl, G1, _, x, dx, pk, pp, pr, kd, b, _, pick ks o, rfl, O1, hpr, pick_each (hk.up s1) sm, pick_ok ho sm, by simp only [pick, List.length_map]; rw [hI.len]; omega, fun H2 O2 => ?_⟩
      rw [ordK_eq hI]
      exact q _ _ s1 O2
    · have e1 : ¬ V.str (Op.ask z).w = V.str ("sort" : Str) := by rcases hz with rfl | rfl | rfl | rfl | rfl | rfl <;> decide
      have e2 : ¬ V.str z = V.str ("ahead" : Str) := by rcases hz with rfl | rfl | rfl | rfl | rfl | rfl <;> decide
      have e3 : ¬ V.str z = V.str ("cheapest" : Str) := by rcases hz with rfl | rfl | rfl | rfl | rfl | rfl <;> decide
      have e4 : ¬ V.str z = V.str ("puts" : Str) := by rcases hz with rfl | rfl | rfl | rfl | rfl | rfl <;> decide
      rw [decide_eq_false e1]
      refine iteF ⟨.str z, rfl, rfl, _, rfl, ?_⟩
      rw [decide_eq_false e2]
      refine iteF ⟨.str z, rfl, rfl, _, rfl, ?_⟩
      rw [decide_eq_false e3]
      refine iteF ⟨.str z, rfl, rfl, _, rfl, ?_⟩
      rw [decide_eq_false e4]
      refine iteF ⟨.str z, rfl, two_ok, fun tp ntp => ?_⟩
      have O1 := own_new (o := .tup [.str "poured", .str "heaps"]) O ntp
      refine ⟨tp, _, rfl, .inr (.inl (.inl O1.l0)), rfl, rfl, _, rfl, ?_⟩
      have pcase : AskP z ∨ AskO z := by
        rcases hz with rfl | rfl | rfl | rfl | rfl | rfl
        · exact .inr (.inl rfl)
        · exact .inr (.inr (.inl rfl))
        · exact .inr (.inr (.inr (.inl rfl)))
        · exact .inr (.inr (.inr (.inr rfl)))
        · exact .inl (.inl rfl)
        · exact .inl (.inr rfl)
      rcases pcase with hz | hz
      · have e5 : inV (V.str z) [.str "poured", .str "heaps"] = true := by rcases hz with rfl | rfl <;> decide
        show (if inV (V.str z) [.str "poured", .str "heaps"] = true then _ else _)
        rw [e5]
        exact iteT ⟨.ref x, rfl, x, dx, _, rfl, O1.l1, rfl, .str z, rfl, G, l, x, dx, pk, pp, kd, b, z, hv, ks, ps, rfl, hz, O1.drop, hP, hp, hb, hb2, q⟩
      · have e5 : inV (V.str z) [.str "poured", .str "heaps"] = false := by rcases hz with rfl | rfl | rfl | rfl <;> decide
        show (if inV (V.str z) [.str "poured", .str "heaps"] = true then _ else _)
        rw [e5]
        exact iteF ⟨.ref x, rfl, x, dx, _, rfl, O1.l1, rfl, .str z, rfl, G, _, x, dx, pk, pp, kd, b, z, us, ks, ps, rfl, hz, O1.drop, hpk, hk, ho, hn, hb, hb2, q⟩
/-- all the answers -/
noncomputable def answers : List Op → List Ky → List (List Ky) → List Str
  | [], _, _ => []
  | .row ks :: r, _, ps => answers r ks ps
  | .pour h :: r, ks, ps => answers r ks (ps ++ [h])
  | op :: r, ks, ps => ans ks ps op :: answers r ks ps
def keysOf : List Op → List Ky → List Ky
  | [], ks => ks
  | .row ks :: r, _ => keysOf r ks
  | _ :: r, ks => keysOf r ks
def poursOf : List Op → List (List Ky) → List (List Ky)
  | [], ps => ps
  | .pour h :: r, ps => poursOf r (ps ++ [h])
  | _ :: r, ps => poursOf r ps
theorem ops_len : ∀ (ops : List Op) (ks : List Ky) (ps : List (List Ky)), (answers ops ks ps).length ≤ ops.length
  | [], _, _ => Nat.le_refl _
  | .row _ :: r, ks, ps => Nat.le_succ_of_le (ops_len r _ _)
  | .pour _ :: r, ks, ps => Nat.le_succ_of_le (ops_len r _ _)
  | .sort _ :: r, ks, ps => Nat.succ_le_succ (ops_len r ks ps)
  | .ask _ :: r, ks, ps => Nat.succ_le_succ (ops_len r ks ps)
def sp_run (K : PySem.W.Frag) (T : TL) : Sp := fun vs H Q _ => ∃ (G : Hp) (l : List (Addr × HO)) (kd : Kd) (b : Nat) (ops : List Op), vs = [.str (ttxt kd b ops)] ∧ Own T G H l ∧ 2 ≤ b ∧ b ≤ 64 ∧ (∀ op ∈ ops, OpOk kd op) ∧ (ops.map pn).sum ≤ 200 ∧ ops.length ≤ 100 ∧
  ∀ G' H' p, Same G G' → Own T G' H' ((p, .lst ((answers ops [] []).map V.str)) :: l) → Q (.ref p) H'
theorem sc_run : FnScope ["text", "reading", "desk", "answers", "word", "things"] ["text"] (defScope s_run) := ⟨rfl, rfl, rfl, by decide +kernel, rfl, by decide +kernel, by decide +kernel⟩
theorem cal_run (t : Ctx K mg base T) : Cal P w K mg base 9 "run" ["text"] (sp_run K T) := by
  refine cal_of t.d_run t.g_run sc_run (fun _ _ _ _ _ _ us hl => match us, hl with | [_], _ => rfl) (fun vs H Q E h => ?_) (fun cdv A outer s H vs Q E hr h => ?_)
  · obtain ⟨G, l, kd, b, ops, rfl, _⟩ := h
    rfl
  · obtain ⟨G, l, kd, b, ops, rfl, O, hb, hb2, hk, hs, hn, q⟩ := h
    refine ⟨_, (pss_cons (ps_set (i := 1) sc_run.nd rfl (.inl rfl) (pe_cal (cal_reading_of t) hr (pa_cons (pv 0) pa_nil)))
      (pss_cons (ps_set (i := 2) sc_run.nd rfl (.inl rfl) (pe_kcal (kcal_Desk t) hr (pa_cons (fldK (pv 1) (by rfl)) (pa_cons (fldK (pv 1) (by rfl)) pa_nil))))
      (pss_cons (ps_set (i := 3) sc_run.nd rfl (.inl rfl) (pe_lst pa_nil))
      (pss_cons (ps_for PassesOwn.never rfl (piL (fldK (pv 1) (by rfl))) (pg_tup (by rfl) (pgs_cons (pg_name (i := 4) sc_run.nd rfl (.inl rfl)) (pgs_cons (pg_name (i := 5) sc_run.nd rfl (.inl rfl)) pgs_nil)))
        (pss_one (ps_if (pt_cmpR op_eq (pv 4) pe_str (nomark _))
          (pss_one (ps_fld (pv 2) (pv 5) rfl))
          (pss_one (ps_if (pt_cmpR op_eq (pv 4) pe_str (nomark _))
            (pss_one (ps_expr (bmK PySem.F.plainAttrs_list PySem.F.slot_list_append PySem.F.type_list_append mt_append (fldK (pv 2) (by rfl)) (pa_cons (pv 5) pa_nil))))
            (pss_one (ps_expr (bmK PySem.F.plainAttrs_list PySem.F.slot_list_append PySem.F.type_list_append mt_append (pv 3) (pa_cons (pe_mcal (pv 2) (mcal_Desk_answer t) hr (pa_cons (pv 4) (pa_cons (pv 5) pa_nil))) pa_nil)))))))))
      (pss_one (ps_ret (pv 3))))))), ?_⟩
    refine ⟨.str (ttxt kd b ops), rfl, G, l, kd, b, ops, rfl, O, hb, hb2, hk, hs, hn, fun G1 H1 x dx pt tv n s1 O1 hE => ?_⟩
    have htl := hE.1
    refine ⟨.ref x, rfl, x, _, dx, _, .str kd.s, rfl, O1.l0, t.k_Reading, t.n_Reading_kind, rfl, .ref x, rfl, x, _, dx, _, nv b, rfl, O1.l0, t.k_Reading, t.n_Reading_base, rfl, ?_⟩
    refine fun d dxd nd ndx ne => ?_
    have O2 := own_new (o := .ins (He.ga K "Desk") dxd []) (own_new (o := .own d) O1 ndx) (by rw [upd_ne ne.symm]; exact nd)
    refine ⟨G1, _, d, dxd, kd, b, rfl, O2, fun H3 pk pp O3 => ⟨rfl, ?_⟩⟩
    have s4 := O3.gup
    have hpk0 : SqL K (upd G1 pk (.lst [])) pk [] := .inl (.inl upd_same)
    have O4 : Own T (upd G1 pk (.lst [])) H3 ((d, dkO K dxd kd b pk pp) :: (pp, .lst []) :: (x, rdO K dx (.str kd.s) (nv b) pt n) :: (pt, .lst tv) :: l) := by
      have z : Own T (upd G1 pk (.lst [])) H3 ((dxd, .own d) :: (d, dkO K dxd kd b pk pp) :: (pp, .lst []) :: (x, rdO K dx (.str kd.s) (nv b) pt n) :: (pt, .lst tv) :: l) := O3.frz.rot
      exact z.drop
    have hE4 : Each (TakenV K (upd G1 pk (.lst []))) tv ops := hE.mono fun _ _ => TakenV.up s4
    generalize upd G1 pk (.lst []) = G4 at s4 hpk0 O4 hE4
    refine ⟨Nat.zero_le _, fun pa na => ?_⟩
    have O5 := own_new (o := .lst []) O4 na
    refine ⟨.ref x, rfl, x, _, dx, _, .ref pt, rfl, O5.l3, t.k_Reading, t.n_Reading_taken, rfl, pt, rfl, ⟨_, .inl (.inl O5.l4)⟩, for_it (walk_list (xs := tv)) (fun i σ H' => ∃ y4 y5 G' pk us hv ks ps as, σ = [some (.str (ttxt kd b ops)), some (.ref x), some (.ref d), some (.ref pa), y4, y5] ∧ Same G4 G' ∧ Own T G' H' ((pa, .lst (as.map V.str)) :: (d, dkO K dxd kd b pk pp) :: (pp, .lst hv) :: (x, rdO K dx (.str kd.s) (nv b) pt n) :: (pt, .lst tv) :: l) ∧ SqL K G' pk us ∧ Keys K G' us ks ∧ (∀ k ∈ ks, KyOk kd k) ∧ ks.length ≤ 200 ∧ Each (KLV K G') hv ps ∧ (∀ h ∈ ps, 1 ≤ h.length ∧ ∀ k ∈ h, KyOk kd k) ∧ ps.flatten.length = ((ops.take i).map pn).sum ∧ as ++ answers (ops.drop i) ks ps = answers ops [] []) ⟨none, none, G4, pk, [], [], [], [], [], rfl, Same.refl _, O5, hpk0, Each.nil, (fun k h => nomatch h), Nat.zero_le _, Each.nil, (fun k h => nomatch h), rfl, rfl⟩ (fun i σ H' _ ⟨_, _, _, _, _, _, _, _, _, _, _, O6, _⟩ => .inl (.inl O6.l4)) (fun i v σ H6 H7 hi ⟨y4, y5, G', pk, us, hv, ks, ps, as, e, s, O6, hpk, hK, hko, hkn, hP, hpo, hpl, has⟩ hy => ?_) (fun σ H6 ⟨y4, y5, G', pk, us, hv, ks, ps, as, e, s, O6, hpk, hK, hko, hkn, hP, hpo, hpl, has⟩ => ?_)⟩
    · subst e
      obtain ⟨rfl, hy⟩ := hy
      obtain ⟨op, eo, tq, ma, mv, rfl, htq, hma, hmv⟩ := hE4.at_v hy
      have hok := hk op (List.mem_of_getElem? eo)
      have htq' := Same.tup (s.trans O6.sub) htq
      have hma' := s _ _ hma
      rw [drop_at eo] at has
      have hsum : ((ops.take (i + 1)).map pn).sum = ((ops.take i).map pn).sum + pn op := by
        rw [take_snoc eo, List.map_append, List.sum_append]
        simp
      have hsum2 : ((ops.take i).map pn).sum + pn op ≤ 200 := by
        have e : (ops.map pn).sum = ((ops.take i).map pn).sum + ((ops.drop i).map pn).sum := by rw [← List.sum_append, ← List.map_append, List.take_append_drop]
        rw [drop_at eo, List.map_cons, List.sum_cons] at e
        omega
      refine ⟨tq, _, rfl, htq', rfl, .str op.w, _, rfl, .ref ma, _, rfl, rfl, .str op.w, rfl, rfl, _, rfl, ?_⟩
      cases op with
      | row ks2 =>
        rw [decide_eq_true (by rfl)]
        have hmv2 := Keys.up s hmv
        refine iteT ⟨.ref ma, rfl, .ref d, rfl, d, _, dxd, _, rfl, O6.l1, t.k_Desk, t.n_Desk_own_keys, (by show 4 < 1000; decide), ?_⟩
        have O7 := own_set (o' := dkO K dxd kd b ma pp) O6 1 rfl
        exact ⟨_, _, G', ma, mv, hv, ks2, ps, as, rfl, s, O7, .inl (.inl hma'), hmv2, hok.1, hok.2, hP, hpo, by rw [hsum]; exact hpl, has⟩
      | pour h =>
        rw [decide_eq_false (show ¬ V.str (Op.pour h).w = V.str ("row" : Str) from (by decide : ¬ V.str ("pour" : Str) = V.str ("row" : Str)))]
        refine iteF ⟨.str "pour", rfl, rfl, _, rfl, ?_⟩
        rw [decide_eq_true (by rfl)]
        have hmv2 := Keys.up s hmv
        have hpc := pours_len fun ks h => (hpo ks h).1
        have hn2 : pn (Op.pour h) = h.length := rfl
        refine iteT ⟨.ref d, rfl, d, _, dxd, _, .ref pp, rfl, O6.l1, t.k_Desk, t.n_Desk_own_pours, rfl, .inl ⟨rfl, _, .inl (.inl O6.l2)⟩, .ref ma, rfl, pp, hv, _, rfl, rfl, O6.l2, sz' (by rw [hP.1]; omega), ?_⟩
        have O7 := own_set (o' := .lst (hv ++ [V.ref ma])) O6 2 rfl
        refine ⟨_, _, G', pk, us, hv ++ [V.ref ma], ks, ps ++ [h], as, rfl, s, O7, hpk, hK, hko, hkn, hP.snoc ⟨ma, mv, rfl, hma', hmv2⟩, fun x hx => ?_, ?_, has⟩
        · rcases List.mem_append.mp hx with hx | hx
          · exact hpo x hx
          · rw [List.mem_singleton.mp hx]
            exact ⟨hok.2.1, hok.1⟩
        · rw [hsum, List.flatten_append, List.length_append, hpl]
          simp [pn]
      | sort z =>
        rw [decide_eq_false (show ¬ V.str (Op.sort z).w = V.str ("row" : Str) from (by decide : ¬ V.str ("sort" : Str) = V.str ("row" : Str)))]
        refine iteF ⟨.str "sort", rfl, rfl, _, rfl, ?_⟩
        rw [decide_eq_false (by decide : ¬ V.str ("sort" : Str) = V.str ("pour" : Str))]
        have hal := congrArg List.length has
        have hol := ops_len ops [] []
        rw [List.length_append] at hal
        refine iteF ⟨.ref pa, rfl, .inl ⟨rfl, _, .inl (.inl O6.l0)⟩, .ref d, rfl, d, dxd, _, rfl, O6.l1, rfl, .str "sort", rfl, .ref ma, rfl, G', _, d, dxd, pk, pp, kd, b, us, hv, ks, ps, .sort z, ma, mv, rfl, (O6.perm ((List.Perm.swap _ _ _).trans (List.Perm.cons _ (List.Perm.swap _ _ _)))), hpk, hK, hko, hkn, hb, hb2, hP, ⟨hpo, by rw [hpl]; omega⟩, .inl ⟨z, rfl, hok, by have hmv : mv = [V.str z] := hmv; rw [← hmv]; exact .inl (.inl hma')⟩, fun G8 H8 s8 O8 => ?_⟩
        have O9 : Own T G8 H8 ((pa, .lst (as.map V.str)) :: (d, dkO K dxd kd b pk pp) :: (pp, .lst hv) :: (x, rdO K dx (.str kd.s) (nv b) pt n) :: (pt, .lst tv) :: l) := O8.rot
        refine ⟨pa, _, _, rfl, rfl, O9.l0, szm (n := 200) (by omega) (by omega), _, _, G8, pk, us, hv, ks, ps, as ++ [ans ks ps (.sort z)], rfl, s.trans s8, by rw [map_snoc]; exact own_set O9 0 rfl, s8.seq hpk, hK.up s8, hko, hkn, hP.mono fun _ _ => KLV.up s8, hpo, by rw [hsum]; exact hpl, ?_⟩
        rw [List.append_assoc]
        exact has
      | ask z =>
        have e1 : ¬ V.str (Op.ask z).w = V.str ("row" : Str) := by rcases hok with rfl | rfl | rfl | rfl | rfl | rfl <;> decide
        have e2 : ¬ V.str z = V.str ("pour" : Str) := by rcases hok with rfl | rfl | rfl | rfl | rfl | rfl <;> decide
        rw [decide_eq_false e1]
        refine iteF ⟨.str z, rfl, rfl, _, rfl, ?_⟩
        rw [decide_eq_false e2]
        have hal := congrArg List.length has
        have hol := ops_len ops [] []
        rw [List.length_append] at hal
        refine iteF ⟨.ref pa, rfl, .inl ⟨rfl, _, .inl (.inl O6.l0)⟩, .ref d, rfl, d, dxd, _, rfl, O6.l1, rfl, .str z, rfl, .ref ma, rfl, G', _, d, dxd, pk, pp, kd, b, us, hv, ks, ps, .ask z, ma, mv, rfl, (O6.perm ((List.Perm.swap _ _ _).trans (List.Perm.cons _ (List.Perm.swap _ _ _)))), hpk, hK, hko, hkn, hb, hb2, hP, ⟨hpo, by rw [hpl]; omega⟩, .inr ⟨z, rfl, hok⟩, fun G8 H8 s8 O8 => ?_⟩
        have O9 : Own T G8 H8 ((pa, .lst (as.map V.str)) :: (d, dkO K dxd kd b pk pp) :: (pp, .lst hv) :: (x, rdO K dx (.str kd.s) (nv b) pt n) :: (pt, .lst tv) :: l) := O8.rot
        refine ⟨pa, _, _, rfl, rfl, O9.l0, szm (n := 200) (by omega) (by omega), _, _, G8, pk, us, hv, ks, ps, as ++ [ans ks ps (.ask z)], rfl, s.trans s8, by rw [map_snoc]; exact own_set O9 0 rfl, s8.seq hpk, hK.up s8, hko, hkn, hP.mono fun _ _ => KLV.up s8, hpo, by rw [hsum]; exact hpl, ?_⟩
        rw [List.append_assoc]
        exact has
    · subst e
      rw [htl, List.drop_length] at has
      rw [show as = answers ops [] [] by rw [← has]; simp [answers]] at O6
      refine ⟨.ref pa, rfl, q G' _ pa ((s1.trans s4).trans s) ?_⟩
      have z := O6.perm (List.perm_middle (l₁ := [(pa, HO.lst ((answers ops [] []).map V.str))]) : List.Perm _ ((d, dkO K dxd kd b pk pp) :: (pa, HO.lst ((answers ops [] []).map V.str)) :: _))
      have z := z.drop
      have z := (z.swap).drop
      have z := (z.swap).drop
      exact (z.swap).drop
end
end Fs

set_option maxHeartbeats 4000000
/-! Answers of a text cut behind a row. -/
namespace Fs
open PySem PySem.Spec PyProof.Rows L2
theorem answers_app : ∀ (xs ys : List Op) (ks : List Ky) (ps : List (List Ky)), answers (xs ++ ys) ks ps = answers xs ks ps ++ answers ys (keysOf xs ks) (poursOf xs ps)
  | [], _, _, _ => rfl
  | .row k :: r, ys, _, ps => answers_app r ys k ps
  | .pour h :: r, ys, ks, ps => answers_app r ys ks (ps ++ [h])
  | .sort _ :: r, ys, ks, ps => congrArg (List.cons _) (answers_app r ys ks ps)
  | .ask _ :: r, ys, ks, ps => congrArg (List.cons _) (answers_app r ys ks ps)
theorem keysOf_app : ∀ (xs ys : List Op) (ks : List Ky), keysOf (xs ++ ys) ks = keysOf ys (keysOf xs ks)
  | [], _, _ => rfl
  | .row k :: r, ys, _ => keysOf_app r ys k
  | .pour _ :: r, ys, ks => keysOf_app r ys ks
  | .sort _ :: r, ys, ks => keysOf_app r ys ks
  | .ask _ :: r, ys, ks => keysOf_app r ys ks
theorem poursOf_app : ∀ (xs ys : List Op) (ps : List (List Ky)), poursOf (xs ++ ys) ps = poursOf ys (poursOf xs ps)
  | [], _, _ => rfl
  | .row _ :: r, ys, ps => poursOf_app r ys ps
  | .pour h :: r, ys, ps => poursOf_app r ys (ps ++ [h])
  | .sort _ :: r, ys, ps => poursOf_app r ys ps
  | .ask _ :: r, ys, ps => poursOf_app r ys ps
theorem answers_take (ops : List Op) (i : Nat) : (answers ops [] []).take (answers (ops.take i) [] []).length = answers (ops.take i) [] [] := by
  have e := answers_app (ops.take i) (ops.drop i) [] []
  rw [List.take_append_drop] at e
  rw [e, List.take_left]
noncomputable def mks (ops : List Op) : List Nat := (List.range (ops.length + 1)).map fun i => (answers (ops.take i) [] []).length
theorem mks_nil : mks [] = [0] := rfl
theorem mks_len (ops : List Op) : (mks ops).length = ops.length + 1 := by simp [mks]
theorem mks_snoc (ops : List Op) (op : Op) : mks (ops ++ [op]) = mks ops ++ [(answers (ops ++ [op]) [] []).length] := by
  unfold mks
  rw [List.length_append, List.length_singleton, List.range_succ, List.map_append, List.map_singleton]
  congr 1
  · apply List.map_congr_left
    intro i hi
    have := List.mem_range.mp hi
    rw [List.take_append_of_le_length (by omega)]
  · rw [List.take_of_length_le (by simp)]
theorem mks_at {ops : List Op} {i : Nat} (h : i ≤ ops.length) : (mks ops)[i]? = some (answers (ops.take i) [] []).length := by
  unfold mks
  rw [List.getElem?_map, List.getElem?_range (by omega)]
  rfl
theorem hp_len : ∀ (L : List Nat) (m : Nat), (hp L m).length ≤ L.length + 1
  | [], _ => Nat.le_refl _
  | a :: r, m => by
    unfold hp
    split
    · have := hp_len r (a + m)
      rw [List.length_cons]
      omega
    · simp
theorem lens_snoc_len (ps : List (List Ky)) (h : List Ky) : (lensOf (ps ++ [h]) []).length ≤ (lensOf ps []).length + 1 := by
  rw [lensOf_snoc, List.length_reverse]
  have := hp_len (lensOf ps []).reverse h.length
  rwa [List.length_reverse] at this
theorem hp_all (q : Nat → Prop) (hq : ∀ a b, q a → q b → q (a + b)) : ∀ (L : List Nat) (m : Nat), (∀ x ∈ L, q x) → q m → ∀ x ∈ hp L m, q x
  | [], m, _, hm, x, hx => by rw [List.mem_singleton.mp hx]; exact hm
  | a :: r, m, hL, hm, x, hx => by
    unfold hp at hx
    split at hx
    · exact hp_all q hq r (a + m) (fun y hy => hL y (List.mem_cons_of_mem _ hy)) (hq _ _ (hL a (List.mem_cons_self ..)) hm) x hx
    · rcases List.mem_cons.mp hx with rfl | hx
      · exact hm
      · exact hL x hx
theorem le_sum {x : Nat} : ∀ {L : List Nat}, x ∈ L → x ≤ L.sum
  | a :: r, h => by
    rw [List.sum_cons]
    rcases List.mem_cons.mp h with rfl | h
    · omega
    · have := le_sum h
      omega
end Fs

set_option maxHeartbeats 4000000
/-! The law's draws and keys. -/
namespace Fs
open PySem PySem.Spec PyProof.Rows L2
abbrev tpO (a b c : Nat) : HO := .lst [nv a, nv b, nv c]
theorem b01 (k : Bool) : -(2 ^ 64) < (if k = true then (1 : Int) else 0) ∧ (if k = true then (1 : Int) else 0) < 2 ^ 64 := by cases k <;> decide
section
variable {P : Program} {w : World} {K : PySem.W.Frag} {mg : Str → Option Value} {base : Heap} {T : TL}
def sp__law_tape (K : PySem.W.Frag) (T : TL) : Sp := fun vs H Q _ => ∃ (G : Hp) (l : List (Addr × HO)) (a : Addr) (ns : List Int) (k : Nat), vs = [.ref a, nv k] ∧ Own T G H l ∧ SqL K G a (ns.map V.int) ∧
  ∀ H' p x y z, Own T G H' ((p, tpO x y z) :: l) → Q (.ref p) H'
theorem sc__law_tape : FnScope ["_law_script", "_law_k", "_law_cell"] ["_law_script", "_law_k"] (defScope s__law_tape) := ⟨rfl, rfl, rfl, by decide +kernel, rfl, by decide +kernel, by decide +kernel⟩
theorem cal__law_tape (t : Ctx K mg base T) : Cal P w K mg base 1 "_law_tape" ["_law_script", "_law_k"] (sp__law_tape K T) := by
  refine cal_of t.d__law_tape t.g__law_tape sc__law_tape (fun _ _ _ _ _ _ us hl => match us, hl with | [_, _], _ => rfl) (fun vs H Q E h => ?_) (fun cdv A outer s H vs Q E hr h => ?_)
  · obtain ⟨G, l, a, ns, k, rfl, _⟩ := h
    rfl
  · obtain ⟨G, l, a, ns, k, rfl, O, ha, q⟩ := h
    refine ⟨_, (pss_cons (ps_set (i := 2) sc__law_tape.nd rfl (.inl rfl) (pe_ifExp (pt_cmpR op_lt (pv 1) (pe_callB lenK (by rfl) t.len (by decide +kernel) (pa_cons (pv 0) pa_nil)) (nomark _)) (pe_ix ixL (pv 0) (pv 1) (fun _ _ => rfl)) pe_int))
      (pss_one (ps_ret (pe_lst (pa_cons (pe_op op_mul (pe_callB call_abs (by rfl) t.abs (by decide +kernel) (pa_cons (pv 2) pa_nil)) (pe_callTy call_int1 (by rfl) t.int (by decide +kernel) (pa_cons (pe_cmpR op_ge (pe_callB call_abs (by rfl) t.abs (by decide +kernel) (pa_cons (pv 2) pa_nil)) (pe_op op_pow pe_int pe_int) (nomark _)) pa_nil))) (pa_cons (pe_op op_modN (pe_op op_add (pe_op op_add (pv 2) (pe_op op_mul pe_int (pv 1))) pe_int) pe_int) (pa_cons pe_int pa_nil))))))), ?_⟩
    have key : ∀ (cell : Int) (k : Bool), ∃ n : Nat, (if cell < 0 then -cell else cell) * (if k = true then 1 else 0) = (n : Int) := by
      intro cell k
      refine ⟨((if cell < 0 then -cell else cell) * (if k = true then 1 else 0)).toNat, ?_⟩
      rw [Int.toNat_of_nonneg]
      cases k
      · simp
      · simp
        split <;> omega
    have key2 : ∀ z : Int, ∃ n : Nat, z.fmod 2147483647 = (n : Int) := fun z => by
      refine ⟨(z.fmod 2147483647).toNat, ?_⟩
      rw [Int.toNat_of_nonneg (Int.fmod_nonneg_of_pos _ (by decide))]
    refine ⟨nv k, rfl, .ref a, rfl, a, _, rfl, .inl (O.seq ha), _, _, rfl, rfl, _, rfl, ite2 (fun h => ?_) (fun h => ?_)⟩
    · have hk : k < ns.length := by
        have := of_decide_eq_true h
        rw [List.length_map] at this
        omega
      refine ⟨.ref a, rfl, nv k, rfl, a, _, _, _, rfl, rfl, O.seq ha, atI_map (List.getElem?_eq_getElem hk), ?_⟩
      refine ⟨.int ns[k], rfl, _, rfl, .int ns[k], rfl, _, rfl, _, _, rfl, rfl, ⟨by decide, by decide, by decide⟩, _, _, rfl, rfl, .inr ⟨_, rfl, _, _, rfl, rfl, .inr (b01 _), ?_⟩⟩
      refine ⟨.int ns[k], rfl, nv k, rfl, _, _, rfl, rfl, .inl ⟨by decide, by decide⟩, _, _, rfl, rfl, _, _, rfl, rfl, _, _, rfl, rfl, (show (2147483647 : Int) ≠ 0 by decide), three_ok, fun p np => ?_⟩
      obtain ⟨x, hx⟩ := key ns[k] (decide ((10 : Int) ^ (18 : Int).toNat ≤ if ns[k] < 0 then -ns[k] else ns[k]))
      obtain ⟨y, hy⟩ := key2 (ns[k] + 7919 * (k : Int) + 1)
      have O1 := own_new (o := tpO x y 0) O np
      rw [show tpO x y 0 = HO.lst [V.int (x : Int), V.int (y : Int), V.int 0] from rfl, ← hx, ← hy] at O1
      exact q _ p x y 0 (by rw [show tpO x y 0 = HO.lst [V.int (x : Int), V.int (y : Int), V.int 0] from rfl, ← hx, ← hy]; exact O1)
    · refine ⟨.int 0, rfl, _, rfl, .int 0, rfl, _, rfl, _, _, rfl, rfl, ⟨by decide, by decide, by decide⟩, _, _, rfl, rfl, .inr ⟨_, rfl, _, _, rfl, rfl, .inr (b01 _), ?_⟩⟩
      refine ⟨.int 0, rfl, nv k, rfl, _, _, rfl, rfl, .inl ⟨by decide, by decide⟩, _, _, rfl, rfl, _, _, rfl, rfl, _, _, rfl, rfl, (show (2147483647 : Int) ≠ 0 by decide), three_ok, fun p np => ?_⟩
      obtain ⟨x, hx⟩ := key 0 (decide ((10 : Int) ^ (18 : Int).toNat ≤ if (0 : Int) < 0 then -0 else 0))
      obtain ⟨y, hy⟩ := key2 (0 + 7919 * (k : Int) + 1)
      have O1 := own_new (o := tpO x y 0) O np
      rw [show tpO x y 0 = HO.lst [V.int (x : Int), V.int (y : Int), V.int 0] from rfl, ← hx, ← hy] at O1
      exact q _ p x y 0 (by rw [show tpO x y 0 = HO.lst [V.int (x : Int), V.int (y : Int), V.int 0] from rfl, ← hx, ← hy]; exact O1)
def sp__law_draw (K : PySem.W.Frag) (T : TL) : Sp := fun vs H Q _ => ∃ (G : Hp) (l : List (Addr × HO)) (ta a b c m : Nat), vs = [.ref ta, nv m] ∧ Own T G H ((ta, tpO a b c) :: l) ∧ 1 ≤ m ∧ m ≤ 1000000 ∧
  ∀ H' a' b' c' v, v < m → Own T G H' ((ta, tpO a' b' c') :: l) → Q (nv v) H'
theorem fm (a b : Nat) : Int.fmod (a : Int) (b : Int) = ((a % b : Nat) : Int) := by rw [Int.fmod_eq_emod_of_nonneg _ (by omega)]; rfl
theorem fd (a b : Nat) : Int.fdiv (a : Int) (b : Int) = ((a / b : Nat) : Int) := by rw [Int.fdiv_eq_ediv_of_nonneg _ (by omega)]; rfl
theorem sc__law_draw : FnScope ["_law_tape_here", "_law_many_here", "_law_found", "_law_once", "_law_twice"] ["_law_tape_here", "_law_many_here"] (defScope s__law_draw) := ⟨rfl, rfl, rfl, by decide +kernel, rfl, by decide +kernel, by decide +kernel⟩
theorem cal__law_draw (t : Ctx K mg base T) : Cal P w K mg base 1 "_law_draw" ["_law_tape_here", "_law_many_here"] (sp__law_draw K T) := by
  refine cal_of t.d__law_draw t.g__law_draw sc__law_draw (fun _ _ _ _ _ _ us hl => match us, hl with | [_, _], _ => rfl) (fun vs H Q E h => ?_) (fun cdv A outer s H vs Q E hr h => ?_)
  · obtain ⟨G, l, ta, a, b, c, m, rfl, _⟩ := h
    rfl
  · obtain ⟨G, l, ta, a, b, c, m, rfl, O, hm, hm2, q⟩ := h
    refine ⟨_, (pss_cons (ps_if (pt_cmpR op_gt (pe_ix ixL (pv 0) pe_int (fun _ _ => rfl)) pe_int (nomark _))
        (pss_cons (ps_set (i := 2) sc__law_draw.nd rfl (.inl rfl) (pe_op op_modN (pe_ix ixL (pv 0) pe_int (fun _ _ => rfl)) (pv 1)))
        (pss_cons (ps_asg (pe_op op_fdivN (pe_ix ixL (pv 0) pe_int (fun _ _ => rfl)) (pv 1)) (pg_sub (pv 0) pe_int set_list))
        (pss_one (ps_ret (pv 2)))))
        pss_nil)
      (pss_cons (ps_asg (pe_op op_add (pe_ix ixL (pv 0) pe_int (fun _ _ => rfl)) pe_int) (pg_sub (pv 0) pe_int set_list))
      (pss_cons (ps_set (i := 3) sc__law_draw.nd rfl (.inl rfl) (pe_op op_modN (pe_op op_mul (pe_op op_add (pe_ix ixL (pv 0) pe_int (fun _ _ => rfl)) (pe_op op_mul pe_int (pe_ix ixL (pv 0) pe_int (fun _ _ => rfl)))) pe_int) pe_int))
      (pss_cons (ps_set (i := 4) sc__law_draw.nd rfl (.inl rfl) (pe_op op_modN (pe_op op_mul (pv 3) (pe_op op_add (pe_op op_modN (pv 3) pe_int) (pe_ix ixL (pv 0) pe_int (fun _ _ => rfl)))) pe_int))
      (pss_one (ps_ret (pe_op op_modN (pe_op op_fdivN (pe_op op_mul (pv 4) (pe_op op_add (pe_op op_modN (pv 4) pe_int) pe_int)) pe_int) (pv 1)))))))), ?_⟩
    refine ⟨.ref ta, rfl, ta, _, _, _, rfl, rfl, .inl (.inl O.l0), atI_nat (j := 0) rfl, _, _, rfl, rfl, _, rfl, ite2 (fun h => ?_) (fun h => ?_)⟩
    · refine ⟨.ref ta, rfl, ta, _, _, _, rfl, rfl, .inl (.inl O.l0), atI_nat (j := 0) rfl, nv m, rfl, _, _, rfl, rfl, by omega, ?_⟩
      refine ⟨.ref ta, rfl, ta, _, _, _, rfl, rfl, .inl (.inl O.l0), atI_nat (j := 0) rfl, nv m, rfl, _, _, rfl, rfl, ⟨by omega, by show m < _; omega⟩, .ref ta, rfl, ta, _, _, 0, rfl, rfl, O.l0, rfl, ?_⟩
      have O1 : Own T G (upd H ta (.lst [V.int (Int.fdiv (a : Int) (m : Int)), nv b, nv c])) ((ta, tpO (a / m) b c) :: l) := by
        rw [fd]
        exact own_set O 0 rfl
      refine ⟨_, rfl, ?_⟩
      have := q _ (a / m) b c (a % m) (Nat.mod_lt _ hm) O1
      rw [show nv (a % m) = V.int (Int.fmod (a : Int) (m : Int)) by rw [fm]] at this
      exact this
    · refine ⟨.ref ta, rfl, ta, _, _, _, rfl, rfl, .inl (.inl O.l0), atI_nat (j := 2) rfl, _, _, rfl, rfl, .ref ta, rfl, ta, _, _, 2, rfl, rfl, O.l0, rfl, ?_⟩
      have O1 := own_set (o' := tpO a b (c + 1)) O 0 rfl
      have e1 : Int.fmod (((b : Int) + 39373 * ((c : Int) + 1)) * 48271) 2147483647 = (((b + 39373 * (c + 1)) * 48271 % 2147483647 : Nat) : Int) := fm ((b + 39373 * (c + 1)) * 48271) 2147483647
      have b1 : (b + 39373 * (c + 1)) * 48271 % 2147483647 < 2147483647 := Nat.mod_lt _ (by decide)
      refine ⟨.ref ta, rfl, ta, _, _, _, rfl, rfl, .inl (.inl O1.l0), atI_nat (j := 1) rfl, .ref ta, rfl, ta, _, _, _, rfl, rfl, .inl (.inl O1.l0), atI_nat (j := 2) rfl, _, _, rfl, rfl, .inl ⟨by decide, by decide⟩, _, _, rfl, rfl, _, _, rfl, rfl, .inr ⟨by decide, by decide⟩, _, _, rfl, rfl, (show (2147483647 : Int) ≠ 0 by decide), ?_⟩
      generalize (b + 39373 * (c + 1)) * 48271 % 2147483647 = u at e1 b1
      have e2 : Int.fmod ((u : Int) * (Int.fmod (u : Int) 1009 + ((c : Int) + 1))) 2147483629 = ((u * (u % 1009 + (c + 1)) % 2147483629 : Nat) : Int) := by
        rw [show Int.fmod (u : Int) 1009 = ((u % 1009 : Nat) : Int) from fm u 1009]
        exact fm (u * (u % 1009 + (c + 1))) 2147483629
      have b2 : u * (u % 1009 + (c + 1)) % 2147483629 < 2147483629 := Nat.mod_lt _ (by decide)
      have go : ∀ z : Int, z = (u : Int) → tSeq (tAsg (tOp (rI (fun x j => j ≠ 0) fun i j => V.int (i.fmod j)) (tOp (rI CMul fun i j => V.int (i * j)) (tVar 3) (tOp (rI0 fun i j => V.int (i + j)) (tOp (rI (fun x j => j ≠ 0) fun i j => V.int (i.fmod j)) (tVar 3) (tC (.int 1009))) (tOp (rIxL K) (tVar 0) (tC (.int 2))))) (tC (.int 2147483629))) (gName 4))
          (tRet (tOp (rI (fun x j => j ≠ 0) fun i j => V.int (i.fmod j)) (tOp (rI (fun x j => j ≠ 0 ∧ j.natAbs < 1073741824) fun i j => V.int (i.fdiv j)) (tOp (rI CMul fun i j => V.int (i * j)) (tVar 4) (tOp (rI0 fun i j => V.int (i + j)) (tOp (rI (fun x j => j ≠ 0) fun i j => V.int (i.fmod j)) (tVar 4) (tC (.int 997))) (tC (.int 5)))) (tC (.int 64))) (tVar 1)))
          { nx := fun _ H' => Q .non H', rt := Q } [some (.ref ta), some (nv m), none, some (.int z), none] (upd H ta (tpO a b (c + 1))) := by
        rintro z rfl
        refine ⟨nv u, rfl, nv u, rfl, _, _, rfl, rfl, (show (1009 : Int) ≠ 0 by decide), .ref ta, rfl, ta, _, _, _, rfl, rfl, .inl (.inl O1.l0), atI_nat (j := 2) rfl, _, _, rfl, rfl, _, _, rfl, rfl, .inl ⟨by omega, by omega⟩, _, _, rfl, rfl, (show (2147483629 : Int) ≠ 0 by decide), ?_⟩
        have e3 : Int.fmod ((u : Int) * (Int.fmod (u : Int) 1009 + ((c + 1 : Nat) : Int))) 2147483629 = ((u * (u % 1009 + (c + 1)) % 2147483629 : Nat) : Int) := e2
        generalize u * (u % 1009 + (c + 1)) % 2147483629 = v at e3 b2
        have go2 : ∀ y : Int, y = (v : Int) → tRet (tOp (rI (fun x j => j ≠ 0) fun i j => V.int (i.fmod j)) (tOp (rI (fun x j => j ≠ 0 ∧ j.natAbs < 1073741824) fun i j => V.int (i.fdiv j)) (tOp (rI CMul fun i j => V.int (i * j)) (tVar 4) (tOp (rI0 fun i j => V.int (i + j)) (tOp (rI (fun x j => j ≠ 0) fun i j => V.int (i.fmod j)) (tVar 4) (tC (.int 997))) (tC (.int 5)))) (tC (.int 64))) (tVar 1)) { nx := fun _ H' => Q .non H', rt := Q } [some (.ref ta), some (nv m), none, some (.int u), some (.int y)] (upd H ta (tpO a b (c + 1))) := by
          rintro y rfl
          have f1 : Int.fmod (v : Int) 997 = ((v % 997 : Nat) : Int) := fm v 997
          have f2 : Int.fdiv ((v : Int) * (Int.fmod (v : Int) 997 + 5)) 64 = ((v * (v % 997 + 5) / 64 : Nat) : Int) := by
            rw [f1]
            exact fd (v * (v % 997 + 5)) 64
          refine ⟨nv v, rfl, nv v, rfl, _, _, rfl, rfl, (show (997 : Int) ≠ 0 by decide), _, _, rfl, rfl, _, _, rfl, rfl, .inl ⟨by omega, by omega⟩, _, _, rfl, rfl, ⟨(show (64 : Int) ≠ 0 by decide), (show (64 : Int).natAbs < 1073741824 by decide)⟩, nv m, rfl, _, _, rfl, rfl, by omega, ?_⟩
          have := q _ a b (c + 1) (v * (v % 997 + 5) / 64 % m) (Nat.mod_lt _ hm) O1
          rw [show nv (v * (v % 997 + 5) / 64 % m) = V.int (Int.fmod (Int.fdiv ((v : Int) * (Int.fmod (v : Int) 997 + 5)) 64) (m : Int)) by rw [f2, fm]] at this
          exact this
        exact go2 _ e3
      exact go _ e1
end
end Fs

set_option maxHeartbeats 4000000
/-! The law's keys. -/
namespace Fs
open PySem PySem.Spec PyProof.Rows L2
theorem getD_at {α : Type} {xs : List α} {i : Nat} {d : α} (h : i < xs.length) : xs[i]? = some (xs.getD i d) := by simp [List.getD, h]
theorem five {n : Nat} (h : n < 5) : n = 0 ∨ n = 1 ∨ n = 2 ∨ n = 3 ∨ n = 4 := by omega
/-- what a key is worth -/
def wrt : Ky → V
  | .num n => .int n
  | .prt a b => .int (a * ((CC / b : Nat) : Int))
  | .txt z => .str z
def LKV (K : PySem.W.Frag) (G : Hp) (v : V) (k : Ky) : Prop := ∃ t, v = .ref t ∧ SqT K G t [.str (kwd k), wrt k]
theorem LKV.up {K : PySem.W.Frag} {G G' : Hp} (s : Same G G') {v : V} {k : Ky} (h : LKV K G v k) : LKV K G' v k := by
  obtain ⟨t, e, h⟩ := h
  exact ⟨t, e, Same.tup s h⟩
theorem mulk (z : Str) (k : Bool) : Txt.mul z (if k = true then 1 else 0) = if k = true then z else Str.empty := by
  cases k
  · rfl
  · show (if (1 : Int) < 1 then _ else if ((1 : Int) == 1 || z.length == 0) = true then z else _) = z
    rw [if_neg (by decide)]
    simp
theorem k01 (k : Bool) : (0 : Int) ≤ (if k = true then 1 else 0) ∧ (if k = true then (1 : Int) else 0) ≤ 100 := by cases k <;> decide
section
variable {P : Program} {w : World} {K : PySem.W.Frag} {mg : Str → Option Value} {base : Heap} {T : TL}
def sp__law_many (K : PySem.W.Frag) (T : TL) : Sp := fun vs H Q _ => ∃ (G : Hp) (l : List (Addr × HO)) (ta a b c : Nat), vs = [.ref ta] ∧ Own T G H ((ta, tpO a b c) :: l) ∧ ∀ H' a' b' c' n, n ≤ 12 → Own T G H' ((ta, tpO a' b' c') :: l) → Q (nv n) H'
theorem sc__law_many : FnScope ["_law_tape_here"] ["_law_tape_here"] (defScope s__law_many) := ⟨rfl, rfl, rfl, by decide +kernel, rfl, by decide +kernel, by decide +kernel⟩
theorem cal__law_many (t : Ctx K mg base T) : Cal P w K mg base 2 "_law_many" ["_law_tape_here"] (sp__law_many K T) := by
  refine cal_of t.d__law_many t.g__law_many sc__law_many (fun _ _ _ _ _ _ us hl => match us, hl with | [_], _ => rfl) (fun vs H Q E h => ?_) (fun cdv A outer s H vs Q E hr h => ?_)
  · obtain ⟨G, l, ta, a, b, c, rfl, _⟩ := h
    rfl
  · obtain ⟨G, l, ta, a, b, c, rfl, O, q⟩ := h
    refine ⟨_, (pss_one (ps_ret (pe_ix ixL (pe_lst (pa_cons (pe_cal (cal__law_draw t) hr (pa_cons (pv 0) (pa_cons pe_int pa_nil))) (pa_cons (pe_op op_add pe_int (pe_cal (cal__law_draw t) hr (pa_cons (pv 0) (pa_cons pe_int pa_nil)))) pa_nil))) (pe_callTy call_int1 (by rfl) t.int (by decide +kernel) (pa_cons (pe_cmpR op_eq (pe_cal (cal__law_draw t) hr (pa_cons (pv 0) (pa_cons pe_int pa_nil))) pe_int (nomark _)) pa_nil)) (fun _ _ => rfl)))), ?_⟩
    refine ⟨.ref ta, rfl, G, l, ta, a, b, c, 7, rfl, O, by omega, by omega, fun H1 a1 b1 c1 x hx O1 => ?_⟩
    refine ⟨.ref ta, rfl, G, l, ta, a1, b1, c1, 6, rfl, O1, by omega, by omega, fun H2 a2 b2 c2 y hy O2 => ?_⟩
    refine ⟨_, _, rfl, rfl, two_ok, fun pl nl => ?_⟩
    have O3 := own_new (o := .lst [nv x, nv (7 + y)]) O2 nl
    refine ⟨.ref ta, rfl, G, _, ta, a2, b2, c2, 8, rfl, O3.swap, by omega, by omega, fun H4 a4 b4 c4 z hz O4 => ?_⟩
    refine ⟨rfl, .inr ⟨_, rfl, ?_⟩⟩
    by_cases h : nv z = V.int 0
    · rw [decide_eq_true h]
      exact ⟨pl, _, _, nv (7 + y), rfl, rfl, .inl (.inl O4.l1), atI_nat (j := 1) rfl, q _ a4 b4 c4 (7 + y) (by omega) O4.swap.drop⟩
    · rw [decide_eq_false h]
      exact ⟨pl, _, _, nv x, rfl, rfl, .inl (.inl O4.l1), atI_nat (j := 0) rfl, q _ a4 b4 c4 x (by omega) O4.swap.drop⟩
def sp__law_base (K : PySem.W.Frag) (T : TL) : Sp := fun vs H Q _ => ∃ (G : Hp) (l : List (Addr × HO)) (ta a b c : Nat), vs = [.ref ta] ∧ Own T G H ((ta, tpO a b c) :: l) ∧ ∀ H' a' b' c' n, 2 ≤ n → n ≤ 64 → Own T G H' ((ta, tpO a' b' c') :: l) → Q (nv n) H'
theorem sc__law_base : FnScope ["_law_tape_here"] ["_law_tape_here"] (defScope s__law_base) := ⟨rfl, rfl, rfl, by decide +kernel, rfl, by decide +kernel, by decide +kernel⟩
theorem cal__law_base (t : Ctx K mg base T) : Cal P w K mg base 2 "_law_base" ["_law_tape_here"] (sp__law_base K T) := by
  refine cal_of t.d__law_base t.g__law_base sc__law_base (fun _ _ _ _ _ _ us hl => match us, hl with | [_], _ => rfl) (fun vs H Q E h => ?_) (fun cdv A outer s H vs Q E hr h => ?_)
  · obtain ⟨G, l, ta, a, b, c, rfl, _⟩ := h
    rfl
  · obtain ⟨G, l, ta, a, b, c, rfl, O, q⟩ := h
    refine ⟨_, (pss_one (ps_ret (pe_ix ixL (pe_lst (pa_cons pe_int (pa_cons pe_int (pa_cons pe_int (pa_cons pe_int (pa_cons pe_int (pa_cons (pe_op op_add pe_int (pe_cal (cal__law_draw t) hr (pa_cons (pv 0) (pa_cons pe_int pa_nil)))) pa_nil))))))) (pe_cal (cal__law_draw t) hr (pa_cons (pv 0) (pa_cons pe_int pa_nil))) (fun _ _ => rfl)))), ?_⟩
    refine ⟨.ref ta, rfl, G, l, ta, a, b, c, 63, rfl, O, by omega, by omega, fun H1 a1 b1 c1 x hx O1 => ?_⟩
    refine ⟨_, _, rfl, rfl, sz (by show 6 ≤ _; omega), fun pl nl => ?_⟩
    have O3 := own_new (o := .lst ([2, 3, 10, 16, 64, 2 + x].map nv)) O1 nl
    refine ⟨.ref ta, rfl, G, _, ta, a1, b1, c1, 6, rfl, O3.swap, by omega, by omega, fun H4 a4 b4 c4 z hz O4 => ?_⟩
    have e : [2, 3, 10, 16, 64, 2 + x][z]? = some ([2, 3, 10, 16, 64, 2 + x].getD z 0) := by
      exact getD_at (show z < [2, 3, 10, 16, 64, 2 + x].length from hz)
    have hb : 2 ≤ [2, 3, 10, 16, 64, 2 + x].getD z 0 ∧ [2, 3, 10, 16, 64, 2 + x].getD z 0 ≤ 64 := by
      have hm := List.mem_of_getElem? e
      simp only [List.mem_cons, List.not_mem_nil, or_false] at hm
      omega
    exact ⟨pl, _, _, _, rfl, rfl, .inl (.inl O4.l1), atI_map e, q _ a4 b4 c4 _ hb.1 hb.2 O4.swap.drop⟩
def sp__law_part (K : PySem.W.Frag) (T : TL) : Sp := fun vs H Q _ => ∃ (G : Hp) (l : List (Addr × HO)) (a : Int) (b : Nat), vs = [.int a, nv b] ∧ Own T G H l ∧ a.natAbs < 10 ^ 18 ∧ 1 ≤ b ∧ b ≤ 60 ∧
  ∀ G' H' v k, Same G G' → Own T G' H' l → KyOk .P k → LKV K G' v k → Q v H'
theorem cut_part {a : Int} {b : Nat} (h1 : a.natAbs < 10 ^ 18) (h2 : 1 ≤ b) (h3 : b ≤ 60) : KyOk .P (.prt (Int.fdiv a (Nat.gcd a.natAbs b : Nat)) (b / Nat.gcd a.natAbs b)) := by
  have g0 : 0 < Nat.gcd a.natAbs b := Nat.gcd_pos_of_pos_right _ (by omega)
  have d1 := Nat.gcd_dvd_left a.natAbs b
  have d2 := Nat.gcd_dvd_right a.natAbs b
  have dd : Nat.gcd (a.natAbs / Nat.gcd a.natAbs b) (b / Nat.gcd a.natAbs b) = 1 := by
    rw [Nat.gcd_div d1 d2, Nat.div_self g0]
  generalize Nat.gcd a.natAbs b = g at g0 d1 d2 dd
  obtain ⟨r, hr⟩ : ((g : Nat) : Int) ∣ a := Int.ofNat_dvd_left.mpr d1
  have e1 : Int.fdiv a (g : Int) = r := by
    rw [Int.fdiv_eq_ediv_of_nonneg _ (by omega), hr]
    exact Int.mul_ediv_cancel_left _ (by omega)
  have e2 : r.natAbs = a.natAbs / g := by
    have := congrArg Int.natAbs hr
    rw [Int.natAbs_mul, Int.natAbs_natCast] at this
    rw [this, Nat.mul_div_cancel_left _ g0]
  rw [e1]
  have hd : b / g ≤ b := Nat.div_le_self _ _
  refine ⟨?_, Nat.div_pos (Nat.le_of_dvd (by omega) d2) g0, by omega, ?_⟩
  · rw [e2]
    exact Nat.lt_of_le_of_lt (Nat.div_le_self _ _) h1
  · rw [e2]
    exact dd
theorem sc__law_part : FnScope ["_law_top", "_law_bottom", "_law_one", "_law_other"] ["_law_top", "_law_bottom"] (defScope s__law_part) := ⟨rfl, rfl, rfl, by decide +kernel, rfl, by decide +kernel, by decide +kernel⟩
theorem cal__law_part (t : Ctx K mg base T) : Cal P w K mg base 1 "_law_part" ["_law_top", "_law_bottom"] (sp__law_part K T) := by
  refine cal_of t.d__law_part t.g__law_part sc__law_part (fun _ _ _ _ _ _ us hl => match us, hl with | [_, _], _ => rfl) (fun vs H Q E h => ?_) (fun cdv A outer s H vs Q E hr h => ?_)
  · obtain ⟨G, l, a, b, rfl, _⟩ := h
    rfl
  · obtain ⟨G, l, a, b, rfl, O, h1, h2, h3, q⟩ := h
    refine ⟨_, (pss_cons (ps_par (i := 2) (j := 3) (by rfl) sc__law_part.nd rfl rfl (by decide) rfl rfl (pa_cons (pe_callB call_abs (by rfl) t.abs (by decide +kernel) (pa_cons (pv 0) pa_nil)) (pa_cons (pv 1) pa_nil)) (by rfl))
      (pss_cons (ps_while PassesOwn.never (pt_cmpR op_gt (pv 3) pe_int (nomark _))
        (pss_one (ps_par (i := 2) (j := 3) (by rfl) sc__law_part.nd rfl rfl (by decide) rfl rfl (pa_cons (pv 3) (pa_cons (pe_op op_modN (pv 2) (pv 3)) pa_nil)) (by rfl))))
      (pss_cons (ps_par (i := 0) (j := 1) (by rfl) sc__law_part.nd rfl rfl (by decide) rfl rfl (pa_cons (pe_op op_fdivN (pv 0) (pv 2)) (pa_cons (pe_op op_fdivN (pv 1) (pv 2)) pa_nil)) (by rfl))
      (pss_one (ps_ret (pe_tup (pa_cons (pe_op op_add_str (pe_callTy call_str_int (by rfl) t.str (by decide +kernel) (pa_cons (pv 0) pa_nil)) (pe_op op_mulS (pe_op op_add_str pe_str (pe_callTy call_str_int (by rfl) t.str (by decide +kernel) (pa_cons (pv 1) pa_nil))) (pe_callTy call_int1 (by rfl) t.int (by decide +kernel) (pa_cons (pe_cmpR op_gt (pv 1) pe_int (nomark _)) pa_nil)))) (pa_cons (pe_op op_mul (pv 0) (pe_op op_fdivN pe_int (pv 1))) pa_nil)))))))), ?_⟩
    have ea : (if a < 0 then -a else a) = ((a.natAbs : Nat) : Int) := by split <;> omega
    refine ⟨.int a, rfl, a, rfl, nv b, rfl, _, _, rfl, ?_⟩
    rw [ea]
    refine ⟨fun m σ H' => ∃ c, σ = [some (.int a), some (nv b), some (nv c), some (nv m)] ∧ H' = H ∧ Nat.gcd c m = Nat.gcd a.natAbs b, ⟨b, a.natAbs, rfl, rfl, rfl⟩, fun m σ H' ⟨c, e, e2, e3⟩ => ?_⟩
    subst e e2
    refine ⟨nv m, rfl, _, _, rfl, rfl, _, rfl, ite2 (fun h => ?_) (fun h => ?_)⟩
    · have hm : 0 < m := by have := of_decide_eq_true h; omega
      refine ⟨fun σ' H'' => ∃ m', m' < m ∧ ∃ c, σ' = [some (.int a), some (nv b), some (nv c), some (nv m')] ∧ H'' = H' ∧ Nat.gcd c m' = Nat.gcd a.natAbs b, fun _ _ h => h, nv m, rfl, nv c, rfl, nv m, rfl, _, _, rfl, rfl, by omega, _, _, rfl, c % m, Nat.mod_lt _ hm, m, ?_, rfl, ?_⟩
      · show [some (.int a), some (nv b), some (nv m), some (V.int (Int.fmod (c : Int) (m : Int)))] = _
        rw [fm]
      · rw [← e3, Nat.gcd_comm c m, Nat.gcd_rec m c, Nat.gcd_comm]
    · have hm : m = 0 := by
        by_cases h0 : 0 < m
        · exact absurd (decide_eq_true (by omega : (0 : Int) < (m : Int))) h
        · omega
      subst hm
      rw [Nat.gcd_zero_right] at e3
      subst e3
      have g0 : 0 < Nat.gcd a.natAbs b := Nat.gcd_pos_of_pos_right _ (by omega)
      have g1 : Nat.gcd a.natAbs b ≤ 60 := Nat.le_trans (Nat.gcd_le_right _ (by omega)) h3
      have hk := cut_part h1 h2 h3
      have eb2 : Int.fdiv (b : Int) (Nat.gcd a.natAbs b : Nat) = ((b / Nat.gcd a.natAbs b : Nat) : Int) := fd _ _
      have CCb : CC < 2 ^ 84 := by decide
      generalize Nat.gcd a.natAbs b = g at g0 g1 hk eb2
      have ka := iw_int hk.1
      have kb := iw_int (n := ((b / g : Nat) : Int)) (by have := hk.2.2.1; show b / g < _; omega)
      have l1 : ("/" : Str).length = 1 := by decide
      refine ⟨.int a, rfl, nv g, rfl, _, _, rfl, rfl, ⟨by omega, by show g < _; omega⟩, nv b, rfl, nv g, rfl, _, _, rfl, rfl, ⟨by omega, by show g < _; omega⟩, _, _, rfl, ?_⟩
      have lb : (iw (Int.fdiv (b : Int) (g : Int))).length ≤ 19 := by rw [eb2]; exact kb.2
      have es : iw (Int.fdiv a (g : Int)) ++ Txt.mul (("/" : Str) ++ iw (Int.fdiv (b : Int) (g : Int))) (if decide ((1 : Int) < Int.fdiv (b : Int) (g : Int)) = true then 1 else 0) = kwd (.prt (Int.fdiv a (g : Int)) (b / g)) := by
        rw [mulk, eb2]
        have b1 := hk.2.1
        show _ = (if b / g = 1 then iw (Int.fdiv a (g : Int)) else iw (Int.fdiv a (g : Int)) ++ ("/" : Str) ++ iw ((b / g : Nat) : Int))
        by_cases h : b / g = 1
        · rw [if_pos h, decide_eq_false (by omega)]
          exact str_ext (by rw [cps_app]; show _ ++ [] = _; simp)
        · rw [if_neg h, decide_eq_true (by omega)]
          exact str_ext (by rw [cps_app, if_pos rfl, cps_app, cps_app, cps_app, List.append_assoc])
      have ml : (Txt.mul (("/" : Str) ++ iw (Int.fdiv (b : Int) (g : Int))) (if decide ((1 : Int) < Int.fdiv (b : Int) (g : Int)) = true then 1 else 0)).length ≤ 20 := by
        rw [mulk]
        split
        · rw [len_app, l1]; omega
        · exact Nat.zero_le _
      refine ⟨.int (Int.fdiv a (g : Int)), rfl, _, rfl, log_small hk.1, .int (Int.fdiv (b : Int) (g : Int)), rfl, _, rfl, by rw [eb2]; exact log_small (by have := hk.2.2.1; show b / g < _; omega), _, _, rfl, rfl, sz (by rw [l1]; show 1 + (iw (Int.fdiv (b : Int) (g : Int))).length ≤ _; omega), .int (Int.fdiv (b : Int) (g : Int)), rfl, _, _, rfl, rfl, .inr ⟨_, rfl, _, _, rfl, rfl, (k01 _).1, (k01 _).2, by rw [len_app, l1]; show 1 + (iw (Int.fdiv (b : Int) (g : Int))).length ≤ _; omega, _, _, rfl, rfl, sz (Nat.le_trans (Nat.add_le_add ka.2 ml) (by decide)), ?_⟩⟩
      have hb60 := hk.2.2.1
      have hb1 := hk.2.1
      refine ⟨.int (Int.fdiv a (g : Int)), rfl, .int (Int.fdiv (b : Int) (g : Int)), rfl, _, _, rfl, rfl, ⟨by rw [eb2]; omega, by rw [eb2]; show b / g < _; omega⟩, _, _, rfl, rfl, .inl (by have := hk.1; omega), two_ok, fun z nz => ?_⟩
      have O1 := own_new (o := .tup [.str (kwd (.prt (Int.fdiv a (g : Int)) (b / g))), wrt (.prt (Int.fdiv a (g : Int)) (b / g))]) O nz
      have e9 : wrt (.prt (Int.fdiv a (g : Int)) (b / g)) = V.int (Int.fdiv a (g : Int) * Int.fdiv 9690712164777231700912800 (Int.fdiv (b : Int) (g : Int))) := by
        rw [eb2, show Int.fdiv 9690712164777231700912800 ((b / g : Nat) : Int) = ((CC / (b / g) : Nat) : Int) from fd CC (b / g)]
        rfl
      have fin := q _ _ (.ref z) (.prt (Int.fdiv a (g : Int)) (b / g)) O1.gup O1.frz hk ⟨z, rfl, .inl (.inl upd_same)⟩
      rw [e9, ← es] at fin
      exact fin
/-! ### a key -/
abbrev stems : List Str := ["", "a", "ab", "abc", "z", "zz", "b", Txt.mul "m" 19]
abbrev tails : List Str := ["", "a", "z", "xy"]
theorem stems_ok : ∀ z ∈ stems, (∀ c ∈ cps z, 97 ≤ c ∧ c ≤ 122) ∧ z.length ≤ 19 := by decide +kernel
theorem tails_ok : ∀ z ∈ tails, (∀ c ∈ cps z, 97 ≤ c ∧ c ≤ 122) ∧ z.length ≤ 2 := by decide +kernel
def sp__law_key (K : PySem.W.Frag) (T : TL) : Sp := fun vs H Q _ => ∃ (G : Hp) (l : List (Addr × HO)) (ta a b c : Nat) (kd : Kd), vs = [.ref ta, .str kd.s] ∧ Own T G H ((ta, tpO a b c) :: l) ∧
  ∀ G' H' a' b' c' v k, Same G G' → Own T G' H' ((ta, tpO a' b' c') :: l) → KyOk kd k → LKV K G' v k → Q v H'
theorem sign_at {z : Nat} (hz : z < 2) : ∃ s : Int, ([V.int 1, V.int (-1)] : List V)[z]? = some (V.int s) ∧ (s = 1 ∨ s = -1) := by
  match z, hz with
  | 0, _ => exact ⟨1, rfl, .inl rfl⟩
  | 1, _ => exact ⟨-1, rfl, .inr rfl⟩
theorem sc__law_key : FnScope ["_law_tape_here", "_law_kind", "_law_stem", "_law_word", "_law_way", "_law_top"] ["_law_tape_here", "_law_kind"] (defScope s__law_key) := ⟨rfl, rfl, rfl, by decide +kernel, rfl, by decide +kernel, by decide +kernel⟩
theorem cal__law_key (t : Ctx K mg base T) : Cal P w K mg base 2 "_law_key" ["_law_tape_here", "_law_kind"] (sp__law_key K T) := by
  refine cal_of t.d__law_key t.g__law_key sc__law_key (fun _ _ _ _ _ _ us hl => match us, hl with | [_, _], _ => rfl) (fun vs H Q E h => ?_) (fun cdv A outer s H vs Q E hr h => ?_)
  · obtain ⟨G, l, ta, a, b, c, kd, rfl, _⟩ := h
    rfl
  · obtain ⟨G, l, ta, a, b, c, kd, rfl, O, q⟩ := h
    refine ⟨_, (pss_cons (ps_if (pt_cmpR op_eq (pv 1) pe_str (nomark _))
        (pss_cons (ps_set (i := 2) sc__law_key.nd rfl (.inl rfl) (pe_ix ixL (pe_lst (pa_cons pe_str (pa_cons pe_str (pa_cons pe_str (pa_cons pe_str (pa_cons pe_str (pa_cons pe_str (pa_cons pe_str (pa_cons (pe_op op_mulS pe_str pe_int) pa_nil))))))))) (pe_cal (cal__law_draw t) hr (pa_cons (pv 0) (pa_cons pe_int pa_nil))) (fun _ _ => rfl)))
        (pss_cons (ps_set (i := 3) sc__law_key.nd rfl (.inl rfl) (pe_slice sl_str (pe_op op_add_str (pv 2) (pe_ix ixL (pe_lst (pa_cons pe_str (pa_cons pe_str (pa_cons pe_str (pa_cons pe_str pa_nil))))) (pe_cal (cal__law_draw t) hr (pa_cons (pv 0) (pa_cons pe_int pa_nil))) (fun _ _ => rfl))) po_none (po_some pe_int)))
        (pss_one (ps_ret (pe_tup (pa_cons (pe_op op_add_str pe_str (pv 3)) (pa_cons (pv 3) pa_nil)))))))
        pss_nil)
      (pss_cons (ps_set (i := 4) sc__law_key.nd rfl (.inl rfl) (pe_cal (cal__law_draw t) hr (pa_cons (pv 0) (pa_cons pe_int pa_nil))))
      (pss_cons (ps_set (i := 5) sc__law_key.nd rfl (.inl rfl) (pe_op op_mul (pe_cal (cal__law_draw t) hr (pa_cons (pv 0) (pa_cons pe_int pa_nil))) (pe_ix ixL (pe_lst (pa_cons pe_int (pa_cons (pe_un un_neg pe_int) pa_nil))) (pe_cal (cal__law_draw t) hr (pa_cons (pv 0) (pa_cons pe_int pa_nil))) (fun _ _ => rfl))))
      (pss_cons (ps_if (pt_cmpR op_eq (pv 4) pe_int (nomark _))
        (pss_one (ps_set (i := 5) sc__law_key.nd rfl (.inl rfl) (pe_op op_mul (pe_op op_sub (pe_op op_sub (pe_op op_pow pe_int pe_int) pe_int) (pe_cal (cal__law_draw t) hr (pa_cons (pv 0) (pa_cons pe_int pa_nil)))) (pe_ix ixL (pe_lst (pa_cons pe_int (pa_cons (pe_un un_neg pe_int) pa_nil))) (pe_cal (cal__law_draw t) hr (pa_cons (pv 0) (pa_cons pe_int pa_nil))) (fun _ _ => rfl)))))
        pss_nil)
      (pss_cons (ps_if (pt_cmpR op_eq (pv 4) pe_int (nomark _))
        (pss_one (ps_set (i := 5) sc__law_key.nd rfl (.inl rfl) (pe_op op_sub (pe_cal (cal__law_draw t) hr (pa_cons (pv 0) (pa_cons (pe_op op_pow pe_int pe_int) pa_nil))) pe_int)))
        pss_nil)
      (pss_cons (ps_if (pt_cmpR op_eq (pv 1) pe_str (nomark _))
        (pss_one (ps_ret (pe_tup (pa_cons (pe_callTy call_str_int (by rfl) t.str (by decide +kernel) (pa_cons (pv 5) pa_nil)) (pa_cons (pv 5) pa_nil)))))
        pss_nil)
      (pss_one (ps_ret (pe_cal (cal__law_part t) hr (pa_cons (pv 5) (pa_cons (pe_ix ixL (pe_lst (pa_cons pe_int (pa_cons pe_int (pa_cons pe_int (pa_cons (pe_op op_add pe_int (pe_cal (cal__law_draw t) hr (pa_cons (pv 0) (pa_cons pe_int pa_nil)))) (pa_cons pe_int pa_nil)))))) (pe_cal (cal__law_draw t) hr (pa_cons (pv 0) (pa_cons pe_int pa_nil))) (fun _ _ => rfl)) pa_nil))))))))))), ?_⟩
    have text : kd = .X ∨ V.str kd.s ≠ V.str ("text" : Str) := by cases kd <;> first | exact .inl rfl | exact .inr (by decide)
    refine ⟨.str kd.s, rfl, rfl, _, rfl, ?_⟩
    rcases text with rfl | hkd
    · rw [decide_eq_true (by rfl)]
      refine iteT ?_
      refine ⟨_, _, rfl, rfl, by decide, by decide, by decide, sz (by show 8 ≤ _; omega), fun pl nl => ?_⟩
      have O1 := own_new (o := .lst (stems.map V.str)) O nl
      refine ⟨.ref ta, rfl, G, _, ta, a, b, c, 8, rfl, O1.swap, by omega, by omega, fun H2 a2 b2 c2 x hx O2 => ?_⟩
      have e1 := getD_at (xs := stems) (d := ("" : Str)) (show x < stems.length from hx)
      refine ⟨pl, _, _, _, rfl, rfl, .inl (.inl O2.l1), atI_map e1, ?_⟩
      obtain ⟨s1, s2⟩ := stems_ok _ (List.mem_of_getElem? e1)
      generalize stems.getD x "" = st at s1 s2
      refine ⟨.str st, rfl, sz (by show 4 ≤ _; omega), fun pm nm => ?_⟩
      have O3 := own_new (o := .lst (tails.map V.str)) O2.swap.drop nm
      refine ⟨.ref ta, rfl, G, _, ta, a2, b2, c2, 4, rfl, O3.swap, by omega, by omega, fun H4 a4 b4 c4 y hy O4 => ?_⟩
      have e2 := getD_at (xs := tails) (d := ("" : Str)) (show y < tails.length from hy)
      refine ⟨pm, _, _, _, rfl, rfl, .inl (.inl O4.l1), atI_map e2, ?_⟩
      obtain ⟨t1, t2⟩ := tails_ok _ (List.mem_of_getElem? e2)
      generalize tails.getD y "" = tt at t1 t2
      refine ⟨_, _, rfl, rfl, sz (by omega), _, rfl, st ++ tt, rfl, sz (by rw [len_app]; omega), ?_⟩
      have hw : Letters (cutS (st ++ tt) none (some 20)) ∧ (cutS (st ++ tt) none (some 20)).length ≤ 20 := by
        have e : cps (cutS (st ++ tt) none (some 20)) = (cps (st ++ tt)).take (min 20 (st ++ tt).length) := by
          show ((cps (st ++ tt)).drop (HT.sIx (st ++ tt).length 0 none)).take (HT.sIx (st ++ tt).length (st ++ tt).length (some 20) - HT.sIx (st ++ tt).length 0 none) = _
          rw [show (some (20 : Int)) = some ((20 : Nat) : Int) from rfl, HT.sIx_nat, HT.sIx_none]
          simp
        refine ⟨fun c hc => ?_, ?_⟩
        · have hc : c ∈ cps (cutS (st ++ tt) none (some 20)) := hc
          rw [e, cps_app] at hc
          rcases List.mem_append.mp (List.mem_of_mem_take hc) with hc | hc
          · exact s1 c hc
          · exact t1 c hc
        · rw [str_len, e, List.length_take]
          omega
      generalize cutS (st ++ tt) none (some 20) = wd at hw
      have l1 : ("'" : Str).length = 1 := by decide
      refine ⟨.str wd, rfl, _, _, rfl, rfl, sz (by rw [l1]; have := hw.2; omega), .str wd, rfl, two_ok, fun z nz => ?_⟩
      have O5 := own_new (o := .tup [.str (kwd (.txt wd)), wrt (.txt wd)]) O4.swap.drop nz
      exact q _ _ a4 b4 c4 (.ref z) (.txt wd) O5.gup O5.frz hw ⟨z, rfl, .inl (.inl upd_same)⟩
    · rw [decide_eq_false hkd]
      refine iteF ?_
      refine ⟨.ref ta, rfl, G, l, ta, a, b, c, 6, rfl, O, by omega, by omega, fun H1 a1 b1 c1 way hway O1 => ?_⟩
      refine ⟨.ref ta, rfl, G, l, ta, a1, b1, c1, 9, rfl, O1, by omega, by omega, fun H2 a2 b2 c2 x hx O2 => ?_⟩
      refine ⟨_, rfl, two_ok, fun pl nl => ?_⟩
      have O3 := own_new (o := .lst [.int 1, .int (-1)]) O2 nl
      refine ⟨.ref ta, rfl, G, _, ta, a2, b2, c2, 2, rfl, O3.swap, by omega, by omega, fun H4 a4 b4 c4 y hy O4 => ?_⟩
      obtain ⟨s, es, hs⟩ := sign_at hy
      refine ⟨pl, _, _, _, rfl, rfl, .inl (.inl O4.l1), atI_v es, _, _, rfl, rfl, .inl ⟨by omega, by omega⟩, ?_⟩
      have O4 := O4.swap.drop
      have htop : ((x : Int) * s).natAbs < 10 ^ 18 := by rcases hs with rfl | rfl <;> omega
      have sub1 : ∀ z : Nat, z < 3 → ∃ t : Int, ((10 : Int) ^ (18 : Int).toNat - 1 - (z : Int)) = t ∧ 0 < t ∧ t < 10 ^ 18 := fun z hz => by
        refine ⟨_, rfl, ?_⟩
        show 0 < (1000000000000000000 : Int) - 1 - (z : Int) ∧ (1000000000000000000 : Int) - 1 - (z : Int) < 10 ^ 18
        omega
      refine ⟨nv way, rfl, rfl, _, rfl, ite2 (fun hw0 => ?_) (fun hw0 => ?_)⟩
      · refine ⟨_, _, rfl, rfl, ⟨by decide, by decide, by decide⟩, _, _, rfl, rfl, .ref ta, rfl, G, l, ta, a4, b4, c4, 3, rfl, O4, by omega, by omega, fun H6 a6 b6 c6 x6 hx6 O6 => ?_⟩
        obtain ⟨t, et, ht1, ht2⟩ := sub1 x6 hx6
        refine ⟨_, _, rfl, rfl, ?_⟩
        refine ⟨_, rfl, two_ok, fun pm nm => ?_⟩
        have O7 := own_new (o := .lst [.int 1, .int (-1)]) O6 nm
        refine ⟨.ref ta, rfl, G, _, ta, a6, b6, c6, 2, rfl, O7.swap, by omega, by omega, fun H4 a4 b4 c4 y8 hy8 O8 => ?_⟩
        obtain ⟨s8, es8, hs8⟩ := sign_at hy8
        refine ⟨pm, _, _, _, rfl, rfl, .inl (.inl O8.l1), atI_v es8, _, _, rfl, rfl, .inl ⟨by rw [et]; omega, by omega⟩, ?_⟩
        have O4 := O8.swap.drop
        have htop : (((10 : Int) ^ (18 : Int).toNat - 1 - (x6 : Int)) * s8).natAbs < 10 ^ 18 := by rw [et]; rcases hs8 with rfl | rfl <;> omega
        refine ⟨nv way, rfl, rfl, _, rfl, ite2 (fun hw1 => ?_) (fun hw1 => ?_)⟩
        · have e0 := eq_of_beq (beq_of_eq (of_decide_eq_true hw0))
          have e1 := of_decide_eq_true hw1
          rw [e0] at e1
          cases e1
        · refine ⟨.str kd.s, rfl, rfl, _, rfl, ?_⟩
          cases kd with
          | N =>
            rw [decide_eq_true (by rfl)]
            refine iteT ?_
            refine ⟨.int _, rfl, _, rfl, log_small htop, .int _, rfl, two_ok, fun z nz => ?_⟩
            have O5 := own_new (o := .tup [.str (kwd (.num (((10 : Int) ^ (18 : Int).toNat - 1 - (x6 : Int)) * s8))), wrt (.num (((10 : Int) ^ (18 : Int).toNat - 1 - (x6 : Int)) * s8))]) O4 nz
            exact q _ _ a4 b4 c4 (.ref z) (.num _) O5.gup O5.frz htop ⟨z, rfl, .inl (.inl upd_same)⟩
          | P =>
            rw [decide_eq_false (by decide)]
            refine iteF ?_
            refine ⟨.int _, rfl, .ref ta, rfl, G, l, ta, a4, b4, c4, 60, rfl, O4, by omega, by omega, fun H4 a4 b4 c4 u hu O4 => ?_⟩
            refine ⟨_, _, rfl, rfl, sz (by show 5 ≤ _; omega), fun pq nq => ?_⟩
            have O5 := own_new (o := .lst ([1, 2, 3, 1 + u, 60].map nv)) O4 nq
            refine ⟨.ref ta, rfl, G, _, ta, a4, b4, c4, 5, rfl, O5.swap, by omega, by omega, fun H4 a4 b4 c4 z hz O4 => ?_⟩
            have e : [1, 2, 3, 1 + u, 60][z]? = some ([1, 2, 3, 1 + u, 60].getD z 0) := by
              exact getD_at (show z < [1, 2, 3, 1 + u, 60].length from hz)
            have hb : 1 ≤ [1, 2, 3, 1 + u, 60].getD z 0 ∧ [1, 2, 3, 1 + u, 60].getD z 0 ≤ 60 := by
              have hm := List.mem_of_getElem? e
              simp only [List.mem_cons, List.not_mem_nil, or_false] at hm
              omega
            exact ⟨pq, _, _, _, rfl, rfl, .inl (.inl O4.l1), atI_map e, G, _, _, _, rfl, O4.swap.drop, htop, hb.1, hb.2, fun G' H' v k s O5 hk hv => q G' H' a4 b4 c4 v k s O5 hk hv⟩
          | X => exact absurd rfl hkd
      · refine ⟨nv way, rfl, rfl, _, rfl, ite2 (fun hw1 => ?_) (fun hw1 => ?_)⟩
        · refine ⟨.ref ta, rfl, _, _, rfl, rfl, ⟨by decide, by decide, by decide⟩, G, l, ta, a4, b4, c4, 1000000, rfl, O4, by omega, by omega, fun H4 a4 b4 c4 x5 hx5 O4 => ?_⟩
          refine ⟨_, _, rfl, rfl, ?_⟩
          have htop : ((x5 : Int) - 500000).natAbs < 10 ^ 18 := by omega
          · refine ⟨.str kd.s, rfl, rfl, _, rfl, ?_⟩
            cases kd with
            | N =>
              rw [decide_eq_true (by rfl)]
              refine iteT ?_
              refine ⟨.int _, rfl, _, rfl, log_small htop, .int _, rfl, two_ok, fun z nz => ?_⟩
              have O5 := own_new (o := .tup [.str (kwd (.num ((x5 : Int) - 500000))), wrt (.num ((x5 : Int) - 500000))]) O4 nz
              exact q _ _ a4 b4 c4 (.ref z) (.num _) O5.gup O5.frz htop ⟨z, rfl, .inl (.inl upd_same)⟩
            | P =>
              rw [decide_eq_false (by decide)]
              refine iteF ?_
              refine ⟨.int _, rfl, .ref ta, rfl, G, l, ta, a4, b4, c4, 60, rfl, O4, by omega, by omega, fun H4 a4 b4 c4 u hu O4 => ?_⟩
              refine ⟨_, _, rfl, rfl, sz (by show 5 ≤ _; omega), fun pq nq => ?_⟩
              have O5 := own_new (o := .lst ([1, 2, 3, 1 + u, 60].map nv)) O4 nq
              refine ⟨.ref ta, rfl, G, _, ta, a4, b4, c4, 5, rfl, O5.swap, by omega, by omega, fun H4 a4 b4 c4 z hz O4 => ?_⟩
              have e : [1, 2, 3, 1 + u, 60][z]? = some ([1, 2, 3, 1 + u, 60].getD z 0) := by
                exact getD_at (show z < [1, 2, 3, 1 + u, 60].length from hz)
              have hb : 1 ≤ [1, 2, 3, 1 + u, 60].getD z 0 ∧ [1, 2, 3, 1 + u, 60].getD z 0 ≤ 60 := by
                have hm := List.mem_of_getElem? e
                simp only [List.mem_cons, List.not_mem_nil, or_false] at hm
                omega
              exact ⟨pq, _, _, _, rfl, rfl, .inl (.inl O4.l1), atI_map e, G, _, _, _, rfl, O4.swap.drop, htop, hb.1, hb.2, fun G' H' v k s O5 hk hv => q G' H' a4 b4 c4 v k s O5 hk hv⟩
            | X => exact absurd rfl hkd
        · refine ⟨.str kd.s, rfl, rfl, _, rfl, ?_⟩
          cases kd with
          | N =>
            rw [decide_eq_true (by rfl)]
            refine iteT ?_
            refine ⟨.int _, rfl, _, rfl, log_small htop, .int _, rfl, two_ok, fun z nz => ?_⟩
            have O5 := own_new (o := .tup [.str (kwd (.num ((x : Int) * s))), wrt (.num ((x : Int) * s))]) O4 nz
            exact q _ _ a4 b4 c4 (.ref z) (.num _) O5.gup O5.frz htop ⟨z, rfl, .inl (.inl upd_same)⟩
          | P =>
            rw [decide_eq_false (by decide)]
            refine iteF ?_
            refine ⟨.int _, rfl, .ref ta, rfl, G, l, ta, a4, b4, c4, 60, rfl, O4, by omega, by omega, fun H4 a4 b4 c4 u hu O4 => ?_⟩
            refine ⟨_, _, rfl, rfl, sz (by show 5 ≤ _; omega), fun pq nq => ?_⟩
            have O5 := own_new (o := .lst ([1, 2, 3, 1 + u, 60].map nv)) O4 nq
            refine ⟨.ref ta, rfl, G, _, ta, a4, b4, c4, 5, rfl, O5.swap, by omega, by omega, fun H4 a4 b4 c4 z hz O4 => ?_⟩
            have e : [1, 2, 3, 1 + u, 60][z]? = some ([1, 2, 3, 1 + u, 60].getD z 0) := by
              exact getD_at (show z < [1, 2, 3, 1 + u, 60].length from hz)
            have hb : 1 ≤ [1, 2, 3, 1 + u, 60].getD z 0 ∧ [1, 2, 3, 1 + u, 60].getD z 0 ≤ 60 := by
              have hm := List.mem_of_getElem? e
              simp only [List.mem_cons, List.not_mem_nil, or_false] at hm
              omega
            exact ⟨pq, _, _, _, rfl, rfl, .inl (.inl O4.l1), atI_map e, G, _, _, _, rfl, O4.swap.drop, htop, hb.1, hb.2, fun G' H' v k s O5 hk hv => q G' H' a4 b4 c4 v k s O5 hk hv⟩
          | X => exact absurd rfl hkd
end
end Fs

set_option maxHeartbeats 4000000
/-! The law's keys, their order and texts. -/
namespace Fs
open PySem PySem.Spec PyProof.Rows L2
abbrev LKs (K : PySem.W.Frag) (G : Hp) (us : List V) (ks : List Ky) : Prop := Each (LKV K G) us ks
def LKL (K : PySem.W.Frag) (G : Hp) (v : V) (ks : List Ky) : Prop := ∃ p us, v = .ref p ∧ G p = some (.lst us) ∧ LKs K G us ks
section
variable {K : PySem.W.Frag} {T : TL} {G H : Hp} {l : List (Addr × HO)} {D : Addr} {J : It} {n : Nat} {Gd : Hp → Prop} {Y : Nat → Hp → V → Hp → Prop} {g : TG} {te : TE} {vs : List Nat} {σ : L2.St} {Qd : Hp → Prop} {β : Type}
/-- each item is a value; the list walked may be owned -/
theorem lc_valO (σ' : L2.St) (hσ : wipe σ vs = σ') (w : Walk J n Gd Y) (O : Own T G H l) (n0 : H D = none) (ys : List β) (hn : ys.length = n) (hz : n < 100000) (f : β → V) (hG : ∀ H' acc, Own T G H' ((D, .lst acc) :: l) → Gd H')
    (hs : ∀ i x y H1 H2 acc (Qc : V → Hp → Prop), i < n → ys[i]? = some y → Own T G H1 ((D, .lst acc) :: l) → Y i H1 x H2 → (∀ H3, Own T G H3 ((D, .lst acc) :: l) → Qc (f y) H3) →
      g x σ' H2 fun σ2 H3 => wipe σ2 vs = σ' ∧ te σ2 H3 Qc)
    (hd : ∀ H', Own T G H' ((D, .lst (ys.map f)) :: l) → Qd H') :
    ∃ W : Nat → Nat → Hp → Prop, (∃ m, W 0 m (upd H D (.lst []))) ∧ ∀ i m H, W i m H →
      (J.stop i H ∧ Qd H) ∨ (J.go i H ∧ ∃ Nx : Hp → Prop, (∀ H', Nx H' → ∃ m', m' < m ∧ W (i + 1) m' H') ∧ ∀ x H', J.yld i H x H' → g x (wipe σ vs) H' fun σ2 H2 => wipe σ2 vs = wipe σ vs ∧ tYes σ2 H2 fun b H3 =>
        if b = true then te σ2 H3 fun y H4 => ∃ acc, H4 D = some (.lst acc) ∧ acc.length < sizeLine ∧ Nx (upd H4 D (.lst (acc ++ [y]))) else Nx H3) := by
  subst hσ
  refine lc_it w (fun i H' => Own T G H' ((D, .lst ((ys.take i).map f)) :: l)) (own_new O n0) (fun i H' _ O1 => hG H' _ O1) (fun i x H1 H2 hi O1 y => ?_) (fun H' O1 => hd H' (by rw [← hn, List.take_length] at O1; exact O1))
  have hj : i < ys.length := hn ▸ hi
  have ey : ys[i]? = some ys[i] := List.getElem?_eq_getElem hj
  refine hs i x ys[i] H1 H2 _ _ hi ey O1 y fun H3 O3 => ⟨_, O3.l0, szm (n := n) (by rw [List.length_take]; omega) hz, ?_⟩
  rw [map_snoc, ← take_snoc ey]
  exact own_set O3 0 rfl
end
section
variable {P : Program} {w : World} {K : PySem.W.Frag} {mg : Str → Option Value} {base : Heap} {T : TL}
def sp__law_keys (K : PySem.W.Frag) (T : TL) : Sp := fun vs H Q _ => ∃ (G : Hp) (l : List (Addr × HO)) (ta a b c : Nat) (kd : Kd) (n : Nat), vs = [.ref ta, .str kd.s, nv n] ∧ Own T G H ((ta, tpO a b c) :: l) ∧ n ≤ 12 ∧
  ∀ G' H' a' b' c' v ks, Same G G' → Own T G' H' ((ta, tpO a' b' c') :: l) → LKL K G' v ks → (∀ k ∈ ks, KyOk kd k) → ks.length ≤ n → Q v H'
theorem sc__law_keys : FnScope ["_law_tape_here", "_law_kind", "_law_many_here", "_law_found", "_law_k", "_law_key_here", "_law_one"] ["_law_tape_here", "_law_kind", "_law_many_here"] (defScope s__law_keys) := ⟨rfl, rfl, rfl, by decide +kernel, rfl, by decide +kernel, by decide +kernel⟩
theorem cal__law_keys (t : Ctx K mg base T) : Cal P w K mg base 3 "_law_keys" ["_law_tape_here", "_law_kind", "_law_many_here"] (sp__law_keys K T) := by
  refine cal_of t.d__law_keys t.g__law_keys sc__law_keys (fun _ _ _ _ _ _ us hl => match us, hl with | [_, _, _], _ => rfl) (fun vs H Q E h => ?_) (fun cdv A outer s H vs Q E hr h => ?_)
  · obtain ⟨G, l, ta, a, b, c, kd, n, rfl, _⟩ := h
    rfl
  · obtain ⟨G, l, ta, a, b, c, kd, n, rfl, O, hn, q⟩ := h
    have hu := hu_of hr
    have hu64 := hr.units
    refine ⟨_, (pss_cons (ps_set (i := 3) sc__law_keys.nd rfl (.inl rfl) (pe_lst pa_nil))
      (pss_cons (ps_for PassesOwn.never rfl (pi_range1 rfl t.range (pa_cons (pv 2) pa_nil)) (pg_name (i := 4) sc__law_keys.nd rfl (.inl rfl))
        (pss_cons (ps_set (i := 5) sc__law_keys.nd rfl (.inl rfl) (pe_cal (cal__law_key t) hr (pa_cons (pv 0) (pa_cons (pv 1) pa_nil))))
        (pss_cons (ps_if (PW.pt (pw_and (pt_cmpR (neNilK hu64) (pv 3) (pe_lst pa_nil) (nomark _)) (pw_and1 (pt_cmpR op_eq (pe_cal (cal__law_draw t) hr (pa_cons (pv 0) (pa_cons pe_int pa_nil))) pe_int (nomark _)))))
          (pss_one (ps_set (i := 5) sc__law_keys.nd rfl (.inl rfl) (pe_ix ixL (pv 3) (pe_cal (cal__law_draw t) hr (pa_cons (pv 0) (pa_cons (pe_callB lenK (by rfl) t.len (by decide +kernel) (pa_cons (pv 3) pa_nil)) pa_nil))) (fun _ _ => rfl))))
          pss_nil)
        (pss_one (ps_if (pt_cmpR op_lt (pe_callB (sumK rfl) (by rfl) t.sum (by decide +kernel) (pa_cons (pe_lc (own := [("_law_one", 6)]) (g := gName 6) (tt := tYes) (by rfl) sc__law_keys.nd (piL (pv 3)) (blkOk_by (own := [("_law_one", 6)]) (N := ["_law_tape_here", "_law_kind", "_law_many_here", "_law_found", "_law_k", "_law_key_here", "_law_one"]) (sc := defScope s__law_keys) (by decide +kernel)) (fun _ _ _ _ _ => (pg_name (i := 6) sc__law_keys.nd rfl (.inl rfl))) (fun _ _ _ _ _ => pts_nil) (fun _ _ _ _ _ => (pe_op op_add (pe_callB call_len_str (by rfl) t.len (by decide +kernel) (pa_cons (pe_ix ixT (pv 6) pe_int (fun _ _ => rfl)) pa_nil)) pe_int))) pa_nil)) pe_int (nomark _))
          (pss_one (ps_expr (bmK PySem.F.plainAttrs_list PySem.F.slot_list_append PySem.F.type_list_append mt_append (pv 3) (pa_cons (pv 5) pa_nil))))
          pss_nil)))))
      (pss_one (ps_ret (pv 3))))), ?_⟩
    refine ⟨sz (by show 0 ≤ _; omega), fun pf nf => ?_⟩
    have O1 := own_new (o := .lst []) O nf
    refine ⟨nv n, rfl, _, rfl, by omega, by omega, ?_⟩
    refine for_range (lo := 0) (n := n) (fun i σ H' => ∃ y4 y5, σ = [some (.ref ta), some (.str kd.s), some (nv n), some (.ref pf), y4, y5, none] ∧ ∃ G1 a1 b1 c1 us ks, Same G G1 ∧ Own T G1 H' ((pf, .lst us) :: (ta, tpO a1 b1 c1) :: l) ∧ LKs K G1 us ks ∧ (∀ k ∈ ks, KyOk kd k) ∧ ks.length ≤ i) ⟨none, none, rfl, G, a, b, c, [], [], Same.refl G, O1, Each.nil, fun k h => (List.not_mem_nil h).elim, by simp⟩ (fun i σ H' hi ⟨y4, y5, e, G1, a1, b1, c1, us, ks, s1, O2, he, ho, hk⟩ => ?_) (fun σ H' ⟨y4, y5, e, G1, a1, b1, c1, us, ks, s1, O2, he, ho, hk⟩ => ?_)
    · subst e
      show gName 4 (.int (0 + (i : Int))) _ _ _
      rw [Int.zero_add]
      refine ⟨.ref ta, rfl, .str kd.s, rfl, G1, _, ta, a1, b1, c1, kd, rfl, O2.swap, fun G3 H3 a3 b3 c3 v k s3 O3 hkk hv => ?_⟩
      have he := he.mono fun _ _ h => LKV.up s3 h
      have s3 := s1.trans s3
      have hl := he.1
      refine ⟨.ref pf, rfl, sz (by show 0 ≤ _; omega), fun pe ne => ?_⟩
      have O4 := own_new (o := .lst []) O3 ne
      refine ⟨pf, pe, us, rfl, rfl, .inl (.inl O4.l2), .inl (.inl O4.l0), _, rfl, ite2 (fun h1 => ?_) (fun h1 => ?_)⟩
      · have hp : 0 < us.length := by
          cases us with
          | nil => exact absurd h1 (by decide)
          | cons u us => exact Nat.succ_pos _
        refine ⟨.ref ta, rfl, G3, _, ta, a3, b3, c3, 3, rfl, O4.drop, by omega, by omega, fun H5 a5 b5 c5 z hz O5 => ?_⟩
        refine ⟨rfl, _, rfl, ite2 (fun h2 => ?_) (fun h2 => ?_)⟩
        · refine ⟨.ref pf, rfl, .ref ta, rfl, .ref pf, rfl, pf, us, rfl, .inl (.inl (.inl O5.l1)), G3, _, ta, a5, b5, c5, us.length, rfl, O5, hp, by omega, fun H5 a5 b5 c5 z2 hz2 O5 => ?_⟩
          have eu := List.getElem?_eq_getElem hz2
          obtain ⟨k3, ek3, hv3⟩ := he.at_v eu
          have O5 := O5.swap
          refine ⟨pf, _, _, us[z2], rfl, rfl, .inl (.inl O5.l0), atI_nat (j := z2) eu, ?_⟩
          refine ⟨.ref pf, rfl, pf, rfl, ⟨_, .inl (.inl O5.l0)⟩, fun D nD => lc_valO [some (.ref ta), some (.str kd.s), some (nv n), some (.ref pf), some (nv i), some us[z2], none] rfl walk_list O5 nD ks he.1.symm (by omega) (fun k => .int ((kwd k).length + 1)) (fun H' acc O6 => .inl (.inl O6.l1)) (fun i2 x k2 H1 H2 acc Qc hi2 ek2 O6 hy hQ => ?_) (fun H6 O6 => ?_)⟩
          · obtain ⟨rfl, hy⟩ := hy
            obtain ⟨tk, rfl, htk⟩ := he.2 i2 x k2 hy ek2
            refine ⟨rfl, .ref tk, rfl, tk, _, _, _, rfl, rfl, O6.tup htk, atI_nat (j := 0) rfl, _, rfl, sz (by have := (kwd_len (ho k2 (List.mem_of_getElem? ek2))).1; omega), _, _, rfl, rfl, hQ _ O6⟩
          · refine ⟨D, ks.map fun k => ((kwd k).length + 1 : Int), rfl, .inl (.inl (by rw [O6.l0, List.map_map]; rfl)), _, _, rfl, rfl, _, rfl, ite2 (fun h165 => ?_) (fun h165 => ?_)⟩
            · refine ⟨.ref pf, rfl, .inl ⟨rfl, _, .inl (.inl O6.l1)⟩, us[z2], rfl, _, _, _, rfl, rfl, O6.l1, sz' (by rw [he.1]; omega), ?_⟩
              have O7 := own_set (o' := .lst (us ++ [us[z2]])) O6.drop 0 rfl
              exact ⟨_, _, rfl, G3, a5, b5, c5, us ++ [us[z2]], ks ++ [k3], s3, O7, he.snoc hv3, fun k hk => (List.mem_append.mp hk).elim (ho k) (fun h => by rw [List.mem_singleton.mp h]; exact ho _ (List.mem_of_getElem? ek3)), by rw [List.length_append]; show _ + 1 ≤ _; omega⟩
            · exact ⟨_, _, rfl, G3, a5, b5, c5, us, ks, s3, O6.drop, he, ho, by omega⟩
        · have O5 := O5.swap
          refine ⟨.ref pf, rfl, pf, rfl, ⟨_, .inl (.inl O5.l0)⟩, fun D nD => lc_valO [some (.ref ta), some (.str kd.s), some (nv n), some (.ref pf), some (nv i), some v, none] rfl walk_list O5 nD ks he.1.symm (by omega) (fun k => .int ((kwd k).length + 1)) (fun H' acc O6 => .inl (.inl O6.l1)) (fun i2 x k2 H1 H2 acc Qc hi2 ek2 O6 hy hQ => ?_) (fun H6 O6 => ?_)⟩
          · obtain ⟨rfl, hy⟩ := hy
            obtain ⟨tk, rfl, htk⟩ := he.2 i2 x k2 hy ek2
            refine ⟨rfl, .ref tk, rfl, tk, _, _, _, rfl, rfl, O6.tup htk, atI_nat (j := 0) rfl, _, rfl, sz (by have := (kwd_len (ho k2 (List.mem_of_getElem? ek2))).1; omega), _, _, rfl, rfl, hQ _ O6⟩
          · refine ⟨D, ks.map fun k => ((kwd k).length + 1 : Int), rfl, .inl (.inl (by rw [O6.l0, List.map_map]; rfl)), _, _, rfl, rfl, _, rfl, ite2 (fun h165 => ?_) (fun h165 => ?_)⟩
            · refine ⟨.ref pf, rfl, .inl ⟨rfl, _, .inl (.inl O6.l1)⟩, v, rfl, _, _, _, rfl, rfl, O6.l1, sz' (by rw [he.1]; omega), ?_⟩
              have O7 := own_set (o' := .lst (us ++ [v])) O6.drop 0 rfl
              exact ⟨_, _, rfl, G3, a5, b5, c5, us ++ [v], ks ++ [k], s3, O7, he.snoc hv, fun k hk => (List.mem_append.mp hk).elim (ho k) (fun h => by rw [List.mem_singleton.mp h]; exact hkk), by rw [List.length_append]; show _ + 1 ≤ _; omega⟩
            · exact ⟨_, _, rfl, G3, a5, b5, c5, us, ks, s3, O6.drop, he, ho, by omega⟩
      · have O5 := O4.drop.swap
        refine ⟨.ref pf, rfl, pf, rfl, ⟨_, .inl (.inl O5.l0)⟩, fun D nD => lc_valO [some (.ref ta), some (.str kd.s), some (nv n), some (.ref pf), some (nv i), some v, none] rfl walk_list O5 nD ks he.1.symm (by omega) (fun k => .int ((kwd k).length + 1)) (fun H' acc O6 => .inl (.inl O6.l1)) (fun i2 x k2 H1 H2 acc Qc hi2 ek2 O6 hy hQ => ?_) (fun H6 O6 => ?_)⟩
        · obtain ⟨rfl, hy⟩ := hy
          obtain ⟨tk, rfl, htk⟩ := he.2 i2 x k2 hy ek2
          refine ⟨rfl, .ref tk, rfl, tk, _, _, _, rfl, rfl, O6.tup htk, atI_nat (j := 0) rfl, _, rfl, sz (by have := (kwd_len (ho k2 (List.mem_of_getElem? ek2))).1; omega), _, _, rfl, rfl, hQ _ O6⟩
        · refine ⟨D, ks.map fun k => ((kwd k).length + 1 : Int), rfl, .inl (.inl (by rw [O6.l0, List.map_map]; rfl)), _, _, rfl, rfl, _, rfl, ite2 (fun h165 => ?_) (fun h165 => ?_)⟩
          · refine ⟨.ref pf, rfl, .inl ⟨rfl, _, .inl (.inl O6.l1)⟩, v, rfl, _, _, _, rfl, rfl, O6.l1, sz' (by rw [he.1]; omega), ?_⟩
            have O7 := own_set (o' := .lst (us ++ [v])) O6.drop 0 rfl
            exact ⟨_, _, rfl, G3, a3, b3, c3, us ++ [v], ks ++ [k], s3, O7, he.snoc hv, fun k hk => (List.mem_append.mp hk).elim (ho k) (fun h => by rw [List.mem_singleton.mp h]; exact hkk), by rw [List.length_append]; show _ + 1 ≤ _; omega⟩
          · exact ⟨_, _, rfl, G3, a3, b3, c3, us, ks, s3, O6.drop, he, ho, by omega⟩
    · subst e
      exact ⟨.ref pf, rfl, q _ _ a1 b1 c1 (.ref pf) ks (s1.trans O2.gup) O2.frz ⟨pf, us, rfl, upd_same, he.mono fun _ _ h => LKV.up O2.gup h⟩ ho hk⟩
end
end Fs

set_option maxHeartbeats 4000000
/-! Sorting what keys are worth. -/
namespace Fs
open PySem PySem.Spec PyProof.Rows L2
open PySem.W (dataLe dataLt dataLe_eq AllAlike Sortable alike)
def wdat : Ky → PyData
  | .num n => .int n
  | .prt a b => .int (a * ((CC / b : Nat) : Int))
  | .txt z => .str z
def wkey (ks : List Ky) (i : Nat) : PyData := .tuple [wdat (ks.getD i (.num 0)), .int (i : Int)]
theorem nat_int {i j : Nat} : ((i : Int) < (j : Int)) ↔ i < j := by omega
theorem wlt {kd : Kd} {k k' : Ky} (h : KyOk kd k) (h' : KyOk kd k') (i j : Nat) : dataLt (.tuple [wdat k, .int (i : Int)]) (.tuple [wdat k', .int (j : Int)]) = true ↔ klt1 k k' ∨ (¬ klt1 k' k ∧ i < j) := by
  cases kd <;> cases k <;> (try exact h.elim) <;> cases k' <;> (try exact h'.elim)
  · simp only [wdat, klt1]
    rw [PySem.W.dataLt_ii, decide_eq_true_eq]
    omega
  · simp only [wdat, klt1]
    rw [PySem.W.dataLt_ii, decide_eq_true_eq]
    omega
  · rename_i z y
    simp only [wdat, klt1]
    rw [PySem.W.dataLt_pair (by simp [alike]) (by simp [alike]), PySem.W.dataLt_str, PySem.W.dataLt_int]
    have en : PyData.eqv (.int (i : Int)) (.int (j : Int)) = decide (i = j) := by
      simp only [PyData.eqv]
      by_cases e : i = j
      · subst e; simp
      · rw [decide_eq_false e]
        simp
        omega
    rw [en]
    by_cases e : z = y
    · subst e
      have e2 : PyData.eqv (.str z) (.str z) = true := by simp [PyData.eqv]
      have hl : ¬ z.cps.toList < z.cps.toList := List.lt_irrefl _
      rw [if_pos e2]
      by_cases e3 : i = j
      · subst e3
        simp [hl]
      · rw [decide_eq_false e3]
        simp [hl]
    · have e2 : ¬ PyData.eqv (.str z) (.str y) = true := by simp [PyData.eqv, e]
      rw [if_neg e2, decide_eq_true_eq]
      constructor
      · exact .inl
      · rintro (g | ⟨g, _⟩)
        · exact g
        · exact Decidable.byContradiction fun h => e (PySem.W.str_of_cps (List.le_antisymm (List.not_lt.mp g) (List.not_lt.mp h)))
theorem sort_lex {L : List Nat} (hL : L.Nodup) {k : Nat → PyData} {lt : Nat → Nat → Prop} (h : ∀ p ∈ L, ∀ q ∈ L, (dataLt (k p) (k q) = true ↔ lt p q ∨ (¬ lt q p ∧ p < q))) : (L.mergeSort (dataLe false k)).Perm L ∧ (L.mergeSort (dataLe false k)).Pairwise (bef lt) := by
  obtain ⟨tr, tot⟩ := dle_tot k
  have hp := List.mergeSort_perm L (dataLe false k)
  have hn := hp.nodup_iff.mpr hL
  refine ⟨hp, List.pairwise_iff_forall_sublist.mpr fun {p q} hs => ?_⟩
  have hpL : p ∈ L := hp.mem_iff.mp (hs.subset (by simp))
  have hqL : q ∈ L := hp.mem_iff.mp (hs.subset (by simp))
  have hle := List.pairwise_iff_forall_sublist.mp (List.pairwise_mergeSort tr tot L) hs
  have hne : p ≠ q := List.pairwise_iff_forall_sublist.mp hn hs
  rw [dataLe_eq] at hle
  have hle : (!dataLt (k q) (k p)) = true := hle
  rw [Bool.not_eq_true'] at hle
  have h2 : ¬ (lt q p ∨ (¬ lt p q ∧ q < p)) := fun g => by
    rw [(h q hqL p hpL).mpr g] at hle
    cases hle
  by_cases g : lt p q
  · exact .inl g
  · refine .inr ⟨fun z => h2 (.inl z), ?_⟩
    have : ¬ q < p := fun z => h2 (.inr ⟨g, z⟩)
    omega
theorem sortD_range {xs : List V} {n : Nat} (hx : xs.length = n) (k : Nat → PyData) : sortD xs ((List.range n).map k) = ((List.range n).mergeSort (dataLe false k)).map fun i => xs.getD i .non := by
  have e : xs.zip ((List.range n).map k) = (List.range n).map fun i => (xs.getD i .non, k i) := by
    refine List.ext_getElem (by simp [hx]) fun i h1 h2 => ?_
    have hi : i < xs.length := by rw [List.length_map, List.length_range] at h2; omega
    simp [List.getD, hi]
  unfold sortD
  rw [e, ← List.map_mergeSort (r := dataLe false k) (s := dataLe false Prod.snd) (f := fun i => (xs.getD i .non, k i)) (l := List.range n) (fun a _ b _ => rfl), List.map_map]
  rfl
theorem ord_sort {kd : Kd} {ks : List Ky} (ho : ∀ k ∈ ks, KyOk kd k) : (List.range ks.length).mergeSort (dataLe false (wkey ks)) = ordK ks := by
  refine ordK_eq (sort_lex List.nodup_range fun p hp q hq => ?_)
  exact wlt (ho _ (klt_at (List.mem_range.mp hp) _)) (ho _ (klt_at (List.mem_range.mp hq) _)) p q
theorem wkey_alike {kd : Kd} {ks : List Ky} (ho : ∀ k ∈ ks, KyOk kd k) : AllAlike ((List.range ks.length).map (wkey ks)) := by
  intro d hd d' hd'
  obtain ⟨i, hi, rfl⟩ := List.mem_map.mp hd
  obtain ⟨j, hj, rfl⟩ := List.mem_map.mp hd'
  have h1 := ho _ (klt_at (List.mem_range.mp hi) (.num 0))
  have h2 := ho _ (klt_at (List.mem_range.mp hj) (.num 0))
  unfold wkey
  generalize ks.getD i (.num 0) = k at h1
  generalize ks.getD j (.num 0) = k' at h2
  cases kd <;> cases k <;> (try exact h1.elim) <;> cases k' <;> (try exact h2.elim) <;> simp [wdat, alike, PySem.W.alikeAll]
theorem wkey_sortable (ks : List Ky) (n : Nat) : Sortable ((List.range n).map (wkey ks)) := Sortable.tuples fun b => ⟨_, _, rfl⟩
theorem wkey_depth (ks : List Ky) (i : Nat) : (wkey ks i).depth ≤ 8 := by
  unfold wkey
  cases ks.getD i (.num 0) <;> simp [wdat, PyData.depth, PyData.depthAll]
def WP (K : PySem.W.Frag) (G : Hp) (ks : List Ky) (v : V) (i : Nat) : Prop := ∃ t, v = .ref t ∧ SqT K G t [wrt (ks.getD i (.num 0)), nv i]
theorem wrt_dp {K : PySem.W.Frag} {H : Hp} (k : Ky) : Dp K H (wrt k) (wdat k) := by
  cases k
  · exact .int _
  · exact .int _
  · exact .str _
theorem WP.dp {K : PySem.W.Frag} {H : Hp} {ks : List Ky} : ∀ {us : List V} {is : List Nat}, Each (WP K H ks) us is → DpAll K H us (is.map (wkey ks))
  | [], [], _ => .nil
  | [], _ :: _, h => by cases h.1
  | _ :: _, [], h => by cases h.1
  | v :: us, i :: is, h => by
    obtain ⟨⟨t, e, h1⟩, h2⟩ := h.head
    subst e
    exact .cons (.tup h1 (.cons (wrt_dp _) (.cons (.int _) .nil))) (WP.dp h2)
end Fs

set_option maxHeartbeats 4000000
/-! The law's order and texts. -/
namespace Fs
open PySem PySem.Spec PyProof.Rows L2
theorem ordK_is {kd : Kd} {ks : List Ky} (ho : ∀ k ∈ ks, KyOk kd k) : IsOrd (klt ks) ks.length (ordK ks) := by
  rw [← ord_sort ho]
  refine sort_lex List.nodup_range fun p hp q hq => ?_
  exact wlt (ho _ (klt_at (List.mem_range.mp hp) _)) (ho _ (klt_at (List.mem_range.mp hq) _)) p q
theorem WP.up {K : PySem.W.Frag} {G G' : Hp} {ks : List Ky} {v : V} {i : Nat} (s : Same G G') (h : WP K G ks v i) : WP K G' ks v i := by
  obtain ⟨t, e, h⟩ := h
  exact ⟨t, e, Same.tup s h⟩
section
variable {P : Program} {w : World} {K : PySem.W.Frag} {mg : Str → Option Value} {base : Heap} {T : TL}
def sp__law_order (K : PySem.W.Frag) (T : TL) : Sp := fun vs H Q _ => ∃ (G : Hp) (l : List (Addr × HO)) (v : V) (kd : Kd) (ks : List Ky), vs = [v] ∧ Own T G H l ∧ LKL K G v ks ∧ (∀ k ∈ ks, KyOk kd k) ∧ ks.length ≤ 1000 ∧
  ∀ G' H' p, Same G G' → Own T G' H' ((p, .lst ((ordK ks).map nv)) :: l) → Q (.ref p) H'
theorem sc__law_order : FnScope ["_law_keys_here", "_law_worth", "_law_place", "_law_k"] ["_law_keys_here"] (defScope s__law_order) := ⟨rfl, rfl, rfl, by decide +kernel, rfl, by decide +kernel, by decide +kernel⟩
theorem cal__law_order (t : Ctx K mg base T) : Cal P w K mg base 1 "_law_order" ["_law_keys_here"] (sp__law_order K T) := by
  refine cal_of t.d__law_order t.g__law_order sc__law_order (fun _ _ _ _ _ _ us hl => match us, hl with | [_], _ => rfl) (fun vs H Q E h => ?_) (fun cdv A outer s H vs Q E hr h => ?_)
  · obtain ⟨G, l, v, kd, ks, rfl, _⟩ := h
    rfl
  · obtain ⟨G, l, v, kd, ks, rfl, O, hv, ho, hn, q⟩ := h
    have hu := hu_of hr
    have hu64 := hr.units
    refine ⟨_, (pss_one (ps_ret (pe_lc (own := [("_law_worth", 1), ("_law_place", 2)]) (g := gTup K 2 (gCons (gName 1) (gCons (gName 2) (gNil)))) (tt := tYes) (by rfl) sc__law_order.nd (piL (pe_callB (sortDK hu64) (by rfl) t.sorted (by decide +kernel) (pa_cons (pe_lc (own := [("_law_k", 3)]) (g := gName 3) (tt := tYes) (by rfl) sc__law_order.nd (pi_range1 rfl t.range (pa_cons (pe_callB lenK (by rfl) t.len (by decide +kernel) (pa_cons (pv 0) pa_nil)) pa_nil)) (blkOk_by (own := [("_law_k", 3)]) (N := ["_law_keys_here", "_law_worth", "_law_place", "_law_k"]) (sc := defScope s__law_order) (by decide +kernel)) (fun _ _ _ _ _ => (pg_name (i := 3) sc__law_order.nd rfl (.inl rfl))) (fun _ _ _ _ _ => pts_nil) (fun _ _ _ _ _ => (pe_tup (pa_cons (pe_ix ixT (pe_ix ixL (pv 0) (pv 3) (fun _ _ => rfl)) pe_int (fun _ _ => rfl)) (pa_cons (pv 3) pa_nil))))) pa_nil))) (blkOk_by (own := [("_law_worth", 1), ("_law_place", 2)]) (N := ["_law_keys_here", "_law_worth", "_law_place", "_law_k"]) (sc := defScope s__law_order) (by decide +kernel)) (fun _ _ _ _ _ => (pg_tup (by rfl) (pgs_cons (pg_name (i := 1) sc__law_order.nd rfl (.inl rfl)) (pgs_cons (pg_name (i := 2) sc__law_order.nd rfl (.inl rfl)) pgs_nil)))) (fun _ _ _ _ _ => pts_nil) (fun _ _ _ _ _ => (pv 2))))), ?_⟩
    obtain ⟨ka, us, rfl, hka, he⟩ := hv
    have hka : SqL K G ka us := .inl (.inl hka)
    have hl := he.1
    refine ⟨.ref ka, rfl, ka, us, rfl, .inl (O.seq hka), _, rfl, by omega, by omega, fun D nD => lc_ownS [some (.ref ka), none, none, none] rfl (ys := List.range us.length) walk_r0 O nD (by simp) (by omega) (R := fun G v i => WP K G ks v i) (fun _ _ _ _ s h => WP.up s h) (fun _ _ => trivial) (fun i x j G1 H1 H2 acc Qc hi ej s1 O1 hy hQ => ?_) (fun G1 H1 ws s1 O1 hE => ?_)⟩
    · obtain ⟨rfl, rfl⟩ := hy
      obtain rfl : i = j := by
        rw [List.getElem?_range (by omega)] at ej
        exact Option.some.inj ej
      have hi : i < us.length := by omega
      have eu := List.getElem?_eq_getElem hi
      have ek := getD_at (xs := ks) (d := Ky.num 0) (show i < ks.length by omega)
      obtain ⟨t, e, ht⟩ := he.2 i _ _ eu ek
      refine ⟨rfl, .ref ka, rfl, nv i, rfl, ka, _, _, us[i], rfl, rfl, (s1.trans O1.sub).seq hka, atI_nat (j := i) eu, ?_⟩
      rw [e]
      refine ⟨t, _, _, _, rfl, rfl, Same.tup (s1.trans O1.sub) ht, atI_nat (j := 1) rfl, nv i, rfl, two_ok, fun z nz => ?_⟩
      have O2 := own_new (o := .tup [wrt (ks.getD i (.num 0)), nv i]) O1 nz
      exact hQ _ _ _ O2.gup O2.frz ⟨z, rfl, .inl (.inl upd_same)⟩
    · refine ⟨D, ws, (List.range us.length).map (wkey ks), rfl, .inl (.inl O1.l0), WP.dp (hE.mono fun _ _ h => WP.up O1.sub h), by rw [hl]; exact wkey_alike ho, wkey_sortable _ _, by rw [hE.1, List.length_range]; omega, fun d hd => ?_, fun p np => ?_⟩
      · obtain ⟨i, _, rfl⟩ := List.mem_map.mp hd
        exact wkey_depth ks i
      · have es : sortD ws ((List.range us.length).map (wkey ks)) = (ordK ks).map fun i => ws.getD i .non := by rw [sortD_range (by rw [hE.1, List.length_range]), hl, ord_sort ho]
        rw [es]
        have O2 := own_new (o := .lst ((ordK ks).map fun i => ws.getD i .non)) O1.drop np
        have O3 := O2.frz
        have s3 := O2.gup
        have hp : SqL K (upd G1 p (.lst ((ordK ks).map fun i => ws.getD i .non))) p ((ordK ks).map fun i => ws.getD i .non) := .inl (.inl upd_same)
        have hE3 := hE.mono fun _ _ h => WP.up s3 h
        generalize upd G1 p (.lst ((ordK ks).map fun i => ws.getD i .non)) = G3 at O3 s3 hp hE3
        have hI := ordK_is ho
        have hoL := hI.len
        refine ⟨p, rfl, ⟨_, O3.seq hp⟩, fun E nE => lc_valS [some (.ref ka), none, none, none] rfl (ys := ordK ks) walk_list O3 nE (by simp) (by rw [List.length_map]; omega) (fun i => nv i) (fun H' s => s.seq hp) (fun i x j H3 H4 acc Qc hi ej O4 hy hQ => ?_) (fun H3 O4 => q _ _ _ (s1.trans s3) O4)⟩
        obtain ⟨rfl, hy⟩ := hy
        obtain ⟨j', ej', rfl⟩ := map_at hy
        obtain rfl : j' = j := Option.some.inj (ej'.symm.trans ej)
        have hj : j' < us.length := by rw [hl]; exact hI.small (List.mem_of_getElem? ej)
        have ew : ws[j']? = some (ws.getD j' .non) := getD_at (by rw [hE.1, List.length_range]; exact hj)
        obtain ⟨t, e, ht⟩ := hE3.2 j' _ j' ew (by rw [List.getElem?_range hj])
        exact ⟨t, _, e, O4.tup ht, rfl, _, _, rfl, _, _, rfl, rfl, rfl, nv j', rfl, hQ _ O4⟩
end
end Fs

set_option maxHeartbeats 4000000
/-! The law's texts. -/
namespace Fs
open PySem PySem.Spec PyProof.Rows L2
def Stx (v : V) (z : Str) : Prop := z.length ≤ 100 ∧ (v = .str z ∨ ∃ i : Int, v = .int i ∧ i.natAbs < 10 ^ 18 ∧ z = iw i)
section
variable {P : Program} {w : World} {K : PySem.W.Frag} {mg : Str → Option Value} {base : Heap} {T : TL}
def sp__law_words (K : PySem.W.Frag) (T : TL) : Sp := fun vs H Q _ => ∃ (G : Hp) (l : List (Addr × HO)) (a : Addr) (us : List V) (zs : List Str), vs = [.ref a] ∧ Own T G H l ∧ SqL K G a us ∧ Each Stx us zs ∧ zs.length ≤ 1000 ∧ ∀ H', Own T G H' l → Q (.str (wds " " zs)) H'
theorem sc__law_words : FnScope ["_law_things", "_law_one"] ["_law_things"] (defScope s__law_words) := ⟨rfl, rfl, rfl, by decide +kernel, rfl, by decide +kernel, by decide +kernel⟩
theorem cal__law_words (t : Ctx K mg base T) : Cal P w K mg base 1 "_law_words" ["_law_things"] (sp__law_words K T) := by
  refine cal_of t.d__law_words t.g__law_words sc__law_words (fun _ _ _ _ _ _ us hl => match us, hl with | [_], _ => rfl) (fun vs H Q E h => ?_) (fun cdv A outer s H vs Q E hr h => ?_)
  · obtain ⟨G, l, a, us, zs, rfl, _⟩ := h
    rfl
  · obtain ⟨G, l, a, us, zs, rfl, O, ha, he, hn, q⟩ := h
    have hu := hu_of hr
    have hu64 := hr.units
    refine ⟨_, (pss_one (ps_ret (pe_ifExp (pt_cmpR (neNilK hu64) (pv 0) (pe_lst pa_nil) (nomark _)) (joinK pe_str (pe_lc (own := [("_law_one", 1)]) (g := gName 1) (tt := tYes) (by rfl) sc__law_words.nd (piL (pv 0)) (blkOk_by (own := [("_law_one", 1)]) (N := ["_law_things", "_law_one"]) (sc := defScope s__law_words) (by decide +kernel)) (fun _ _ _ _ _ => (pg_name (i := 1) sc__law_words.nd rfl (.inl rfl))) (fun _ _ _ _ _ => pts_nil) (fun _ _ _ _ _ => (pe_callTy strX (by rfl) t.str (by decide +kernel) (pa_cons (pv 1) pa_nil))))) pe_str))), ?_⟩
    have l1 : (" " : Str).length = 1 := by decide
    have hl := he.1
    refine ⟨.ref a, rfl, sz (by show 0 ≤ _; omega), fun pe ne => ?_⟩
    have O1 := own_new (o := .lst []) O ne
    refine ⟨a, pe, us, rfl, rfl, O1.seq ha, .inl (.inl O1.l0), _, rfl, ite2 (fun h => ?_) (fun h => ?_)⟩
    · have h0 : 0 < zs.length := by
        cases us with
        | nil => exact absurd h (by decide)
        | cons u us => rw [← hl]; exact Nat.succ_pos _
      refine ⟨⟨_, rfl⟩, .ref a, rfl, a, rfl, ⟨_, O1.seq ha⟩, fun D nD => lc_valS [some (.ref a), none] rfl (ys := zs) walk_list O1.drop nD hl.symm (by omega) V.str (fun H' s => s.seq ha) (fun i x z H1 H2 acc Qc hi ez O2 hy hQ => ?_) (fun H1 O2 => ?_)⟩
      · obtain ⟨rfl, hy⟩ := hy
        obtain ⟨hz, hx⟩ := he.2 i x z hy ez
        rcases hx with rfl | ⟨n, rfl, hn1, rfl⟩
        · exact ⟨rfl, .str z, rfl, .inr ⟨z, rfl, hQ _ O2⟩⟩
        · exact ⟨rfl, .int n, rfl, .inl ⟨n, rfl, log_small hn1, hQ _ O2⟩⟩
      · have hsum := len_sum (k := 100) (ws := zs) fun z hz => by
          obtain ⟨i, hi, rfl⟩ := List.mem_iff_getElem.mp hz
          exact (he.2 i us[i] zs[i] (List.getElem?_eq_getElem (by omega)) (List.getElem?_eq_getElem hi)).1
        refine ⟨_, D, zs, rfl, rfl, .inl (.inl O2.l0), by rw [l1]; omega, ?_⟩
        have := q _ O2.drop
        rw [wds_some h0] at this
        exact this
    · have h0 : zs = [] := by
        cases us with
        | nil => exact List.length_eq_zero_iff.mp hl.symm
        | cons u us => exact absurd rfl h
      subst h0
      exact q _ O1.drop
def sp__law_sorted (K : PySem.W.Frag) (T : TL) : Sp := fun vs H Q _ => ∃ (G : Hp) (l : List (Addr × HO)) (v : V) (kd : Kd) (ks : List Ky), vs = [v] ∧ Own T G H l ∧ LKL K G v ks ∧ (∀ k ∈ ks, KyOk kd k) ∧ ks.length ≤ 1000 ∧
  ∀ G' H', Same G G' → Own T G' H' l → Q (.str (kwds (pick ks (ordK ks)))) H'
theorem sc__law_sorted : FnScope ["_law_keys_here", "_law_k"] ["_law_keys_here"] (defScope s__law_sorted) := ⟨rfl, rfl, rfl, by decide +kernel, rfl, by decide +kernel, by decide +kernel⟩
theorem cal__law_sorted (t : Ctx K mg base T) : Cal P w K mg base 2 "_law_sorted" ["_law_keys_here"] (sp__law_sorted K T) := by
  refine cal_of t.d__law_sorted t.g__law_sorted sc__law_sorted (fun _ _ _ _ _ _ us hl => match us, hl with | [_], _ => rfl) (fun vs H Q E h => ?_) (fun cdv A outer s H vs Q E hr h => ?_)
  · obtain ⟨G, l, v, kd, ks, rfl, _⟩ := h
    rfl
  · obtain ⟨G, l, v, kd, ks, rfl, O, hv, ho, hn, q⟩ := h
    refine ⟨_, (pss_one (ps_ret (pe_cal (cal__law_words t) hr (pa_cons (pe_lc (own := [("_law_k", 1)]) (g := gName 1) (tt := tYes) (by rfl) sc__law_sorted.nd (piL (pe_cal (cal__law_order t) hr (pa_cons (pv 0) pa_nil))) (blkOk_by (own := [("_law_k", 1)]) (N := ["_law_keys_here", "_law_k"]) (sc := defScope s__law_sorted) (by decide +kernel)) (fun _ _ _ _ _ => (pg_name (i := 1) sc__law_sorted.nd rfl (.inl rfl))) (fun _ _ _ _ _ => pts_nil) (fun _ _ _ _ _ => (pe_ix ixT (pe_ix ixL (pv 0) (pv 1) (fun _ _ => rfl)) pe_int (fun _ _ => rfl)))) pa_nil)))), ?_⟩
    obtain ⟨ka, us, rfl, hka, he⟩ := hv
    have hkq : SqL K G ka us := .inl (.inl hka)
    have hl := he.1
    have hI := ordK_is ho
    have hoL := hI.len
    refine ⟨.ref ka, rfl, G, l, .ref ka, kd, ks, rfl, O, ⟨ka, us, rfl, hka, he⟩, ho, hn, fun G1 H1 p s1 O1 => ?_⟩
    have O2 := O1.frz
    have s2 := O1.gup
    have hp : SqL K (upd G1 p (.lst ((ordK ks).map nv))) p ((ordK ks).map nv) := .inl (.inl upd_same)
    generalize upd G1 p (.lst ((ordK ks).map nv)) = G2 at O2 s2 hp
    have s3 := s1.trans s2
    refine ⟨p, rfl, ⟨_, O2.seq hp⟩, fun D nD => lc_valS [some (.ref ka), none] rfl (ys := ordK ks) walk_list O2 nD (by simp) (by rw [List.length_map]; omega) (fun i => .str (kwd (ks.getD i (.num 0)))) (fun H' s => s.seq hp) (fun i x j H3 H4 acc Qc hi ej O4 hy hQ => ?_) (fun H3 O4 => ?_)⟩
    · obtain ⟨rfl, hy⟩ := hy
      obtain ⟨j', ej', rfl⟩ := map_at hy
      obtain rfl : j' = j := Option.some.inj (ej'.symm.trans ej)
      have hj : j' < ks.length := hI.small (List.mem_of_getElem? ej)
      have eu := List.getElem?_eq_getElem (show j' < us.length by omega)
      obtain ⟨t, e, ht⟩ := he.2 j' _ _ eu (getD_at (d := Ky.num 0) hj)
      have hs := s3.trans O4.sub
      refine ⟨rfl, .ref ka, rfl, nv j', rfl, ka, _, _, _, rfl, rfl, hs.seq hkq, atI_nat (j := j') eu, ?_⟩
      rw [e]
      exact ⟨t, _, _, _, rfl, rfl, Same.tup hs ht, atI_nat (j := 0) rfl, hQ _ O4⟩
    · refine ⟨_, l, D, _, (pick ks (ordK ks)).map kwd, rfl, O4.frz, .inl (.inl upd_same), ⟨by simp, fun i v z a b => ?_⟩, by simp [hoL]; omega, fun H5 O5 => q _ _ (s3.trans O4.gup) O5⟩
      obtain ⟨j, ej, rfl⟩ := map_at a
      rw [List.map_map, List.getElem?_map, ej] at b
      obtain rfl := Option.some.inj b
      exact ⟨(kwd_len (ho _ (klt_at (hI.small (List.mem_of_getElem? ej)) _))).1, .inl rfl⟩
end
end Fs

set_option maxHeartbeats 4000000
/-! The law's rings. -/
namespace Fs
open PySem PySem.Spec PyProof.Rows L2
theorem all_flat (ns : List Nat) : (ns.map nv).all flatV = true := by
  rw [List.all_eq_true]
  intro x hx
  obtain ⟨n, _, rfl⟩ := List.mem_map.mp hx
  rfl
theorem inV_nat (i : Nat) (ns : List Nat) : inV (nv i) (ns.map nv) = decide (i ∈ ns) := by
  unfold inV
  rw [Bool.eq_iff_iff, List.any_eq_true, decide_eq_true_eq]
  constructor
  · rintro ⟨x, hx, h⟩
    obtain ⟨n, hn, rfl⟩ := List.mem_map.mp hx
    have : (n : Int) = (i : Int) := by simpa [eqV] using h
    rw [show i = n by omega]
    exact hn
  · intro h
    exact ⟨nv i, List.mem_map.mpr ⟨i, h, rfl⟩, by simp [eqV]⟩
section
variable {P : Program} {w : World} {K : PySem.W.Frag} {mg : Str → Option Value} {base : Heap} {T : TL}
def sp__law_rings (K : PySem.W.Frag) (T : TL) : Sp := fun vs H Q _ => ∃ (G : Hp) (l : List (Addr × HO)) (oa : Addr) (o : List Nat), vs = [.ref oa] ∧ Own T G H l ∧ NL K G oa o ∧ o.Perm (List.range o.length) ∧ o.length ≤ 200 ∧
  ∀ G' H' p fv, Same G G' → Own T G' H' ((p, .lst fv) :: l) → Each (LV G') fv (rgs (stp o) o.length) → Q (.ref p) H'
theorem sc__law_rings : FnScope ["_law_order_here", "_law_found", "_law_met", "_law_k", "_law_ring"] ["_law_order_here"] (defScope s__law_rings) := ⟨rfl, rfl, rfl, by decide +kernel, rfl, by decide +kernel, by decide +kernel⟩
theorem cal__law_rings (t : Ctx K mg base T) : Cal P w K mg base 1 "_law_rings" ["_law_order_here"] (sp__law_rings K T) := by
  refine cal_of t.d__law_rings t.g__law_rings sc__law_rings (fun _ _ _ _ _ _ us hl => match us, hl with | [_], _ => rfl) (fun vs H Q E h => ?_) (fun cdv A outer s H vs Q E hr h => ?_)
  · obtain ⟨G, l, oa, o, rfl, _⟩ := h
    rfl
  · obtain ⟨G, l, oa, o, rfl, O, ho, hp, hn, q⟩ := h
    refine ⟨_, (pss_cons (ps_set (i := 1) sc__law_rings.nd rfl (.inl rfl) (pe_lst pa_nil))
      (pss_cons (ps_set (i := 2) sc__law_rings.nd rfl (.inl rfl) (pe_lst pa_nil))
      (pss_cons (ps_for PassesOwn.never rfl (pi_range1 rfl t.range (pa_cons (pe_callB lenK (by rfl) t.len (by decide +kernel) (pa_cons (pv 0) pa_nil)) pa_nil)) (pg_name (i := 3) sc__law_rings.nd rfl (.inl rfl))
        (pss_cons (ps_set (i := 4) sc__law_rings.nd rfl (.inl rfl) (pe_lst (pa_cons (pv 3) pa_nil)))
        (pss_cons (ps_while PassesOwn.never (PW.pt (pw_and (pt_cmpR op_ne (pe_ix ixL (pv 0) (pe_ix ixL (pv 4) (pe_un un_neg pe_int) (fun _ _ => rfl)) (fun _ _ => rfl)) (pv 3) (nomark _)) (pw_and1 (pt_cmpR op_notIn_seq (pv 3) (pv 2) (by rfl)))))
          (pss_one (ps_expr (bmK PySem.F.plainAttrs_list PySem.F.slot_list_append PySem.F.type_list_append mt_append (pv 4) (pa_cons (pe_ix ixL (pv 0) (pe_ix ixL (pv 4) (pe_un un_neg pe_int) (fun _ _ => rfl)) (fun _ _ => rfl)) pa_nil)))))
        (pss_one (ps_if (pt_cmpR op_gt (pe_callB lenK (by rfl) t.len (by decide +kernel) (pa_cons (pv 4) pa_nil)) pe_int (nomark _))
          (pss_cons (ps_expr (bmK PySem.F.plainAttrs_list PySem.F.slot_list_append PySem.F.type_list_append mt_append (pv 1) (pa_cons (pv 4) pa_nil)))
          (pss_one (ps_set (i := 2) sc__law_rings.nd rfl (.inl rfl) (pe_op op_cat (pv 2) (pv 4)))))
          pss_nil)))))
      (pss_one (ps_ret (pv 1)))))), ?_⟩
    refine ⟨Nat.zero_le _, fun pf n0 => ?_⟩
    have O1 := own_new (o := .lst []) O n0
    refine ⟨Nat.zero_le _, fun pm n1 => ?_⟩
    have O2 := own_new (o := .lst []) O1 n1
    refine ⟨.ref oa, rfl, oa, _, rfl, .inl (O2.seq ho), _, rfl, by rw [List.length_map]; omega, by rw [List.length_map]; omega, ?_⟩
    rw [List.length_map]
    refine for_it walk_r0 (fun i σ H' => ∃ y3 y4 G' fv pm, σ = [some (.ref oa), some (.ref pf), some (.ref pm), y3, y4] ∧ Same G G' ∧ Own T G' H' ((pf, .lst fv) :: l) ∧ Each (LV G') fv (rgs (stp o) i) ∧ GL G' pm (rgs (stp o) i).flatten ∧ (rgs (stp o) i).flatten.length ≤ i * 200) ⟨none, none, _, [], pm, rfl, O2.gup, O2.frz, Each.nil, upd_same, Nat.zero_le _⟩ (fun _ _ _ _ _ => trivial) (fun i x σ H4 H5 hi ⟨y3, y4, G', fv, pm, e, s, O3, hF, hM, hk⟩ hy => ?_) (fun σ H4 ⟨y3, y4, G', fv, pm, e, s, O3, hF, hM, hk⟩ => ?_)
    · subst e
      obtain ⟨rfl, rfl⟩ := hy
      have hi : i < o.length := hi
      obtain ⟨hP, hPn⟩ := per_ok (stp_small hp) (stp_inj hp) hi
      have sm : ∀ j, it (stp o) i j < o.length := it_small (stp_small hp) hi
      refine ⟨nv i, rfl, sz (by show 1 ≤ _; omega), fun rp n0 => ?_⟩
      have O4 := own_new (o := .lst (((List.range 1).map (it (stp o) i)).map nv)) O3 n0
      refine ⟨fun m σ H' => ∃ j, σ = [some (.ref oa), some (.ref pf), some (.ref pm), some (nv i), some (.ref rp)] ∧ Own T G' H' ((rp, .lst (((List.range (j + 1)).map (it (stp o) i)).map nv)) :: (pf, .lst fv) :: l) ∧ m = per (stp o) i - j ∧ j < per (stp o) i ∧ (i ∈ (rgs (stp o) i).flatten → j = 0), ⟨_, 0, rfl, O4, rfl, hP.1, fun _ => rfl⟩, fun m σ H' ⟨j, e, O5, hm, hj, hj0⟩ => ?_⟩
      subst e
      have hl : SqL K H' rp (((List.range j).map (it (stp o) i)).map nv ++ [nv (it (stp o) i j)]) := by
        rw [← it_range]
        exact .inl (.inl O5.l0)
      have es : o[it (stp o) i j]? = some (it (stp o) i (j + 1)) := stp_at (sm j)
      have skip : rgs (stp o) (i + 1) = rgs (stp o) i → ∃ y3 y4 G' fv pm2, [some (.ref oa), some (.ref pf), some (.ref pm), some (nv i), some (V.ref rp)] = [some (.ref oa), some (.ref pf), some (.ref pm2), y3, y4] ∧ Same G G' ∧ Own T G' H' ((pf, .lst fv) :: l) ∧ Each (LV G') fv (rgs (stp o) (i + 1)) ∧ GL G' pm2 (rgs (stp o) (i + 1)).flatten ∧ (rgs (stp o) (i + 1)).flatten.length ≤ (i + 1) * 200 := fun e => by
        rw [e]
        exact ⟨some (nv i), some (.ref rp), G', fv, pm, rfl, s, O5.drop, hF, hM, by omega⟩
      refine ⟨.ref oa, rfl, .ref rp, rfl, _, rfl, rp, _, _, _, rfl, rfl, hl, atI_last _ _, oa, _, _, _, rfl, rfl, O5.seq (s.seq ho), atI_map es, nv i, rfl, rfl, _, rfl, ?_⟩
      have cf : ∀ k : Bool, k = decide (1 < j + 1) → (List.map nv (List.map (it (stp o) i) (List.range (j + 1)))).length = j + 1 := fun _ _ => by simp
      by_cases h : it (stp o) i (j + 1) = i
      · rw [h, decide_eq_true rfl]
        refine iteF ?_
        have hper : j + 1 = per (stp o) i := by
          by_cases g : j + 1 < per (stp o) i
          · exact absurd h (hP.2.2 (j + 1) (by omega) g)
          · omega
        refine iteF ?_
        refine ⟨.ref rp, rfl, rp, _, rfl, .inl (.inl (.inl O5.l0)), _, _, rfl, rfl, _, rfl, ite2 (fun h => ?_) (fun h => ?_)⟩
        · have hp1 : per (stp o) i ≠ 1 := fun e => by
            have := of_decide_eq_true h
            rw [List.length_map, List.length_map, List.length_range] at this
            omega
          have hni : ¬ i ∈ (rgs (stp o) i).flatten := fun e => by
            have := hj0 e
            omega
          have er : rgs (stp o) (i + 1) = rgs (stp o) i ++ [ringOf (stp o) i] := by
            conv => lhs; unfold rgs
            rw [if_neg (fun e => e.elim hni hp1)]
          have e2 : (List.range (j + 1)).map (it (stp o) i) = ringOf (stp o) i := by rw [hper]; rfl
          rw [e2] at O5
          have hfl : fv.length ≤ 200 := by
            have := rgs_len (f := stp o) i
            rw [hF.1]
            omega
          have hrl : (ringOf (stp o) i).length ≤ 200 := by rw [ring_len]; omega
          have hk3 : i * 200 ≤ 200 * 200 := Nat.mul_le_mul (by omega) (Nat.le_refl _)
          refine ⟨.ref pf, rfl, .inl ⟨rfl, _, .inl (.inl O5.l1)⟩, .ref rp, rfl, _, _, _, rfl, rfl, O5.l1, sz' (by omega), ?_⟩
          have O6 := own_set (o' := .lst (fv ++ [.ref rp])) O5 1 rfl
          have hrp := O6.l0
          have s6 := O6.gup
          have O7 := O6.frz
          have hrp7 : GL (upd G' rp (.lst ((ringOf (stp o) i).map nv))) rp (ringOf (stp o) i) := upd_same
          generalize upd G' rp (.lst ((ringOf (stp o) i).map nv)) = G7 at s6 O7 hrp7
          refine ⟨.ref pm, rfl, .ref rp, rfl, pm, rp, _, _, rfl, rfl, (s6.trans O7.sub) _ _ hM, hrp, sz (by rw [List.length_map, List.length_map]; omega), fun p np => ?_⟩
          have O8 := own_new (o := .lst ((rgs (stp o) i).flatten.map nv ++ (ringOf (stp o) i).map nv)) O7 np
          have s8 := s6.trans O8.gup
          refine ⟨some (nv i), some (.ref rp), _, _, p, rfl, s.trans s8, O8.frz, ?_, ?_, ?_⟩
          · rw [er]
            exact (hF.mono fun _ _ h => LV.up s8 h).snoc ⟨rp, rfl, O8.gup _ _ hrp7⟩
          · rw [er, List.flatten_append]
            show upd _ _ _ _ = some (.lst (List.map nv _))
            rw [List.map_append, List.flatten_cons, List.flatten_nil, List.append_nil]
            exact upd_same
          · rw [er, List.flatten_append, List.length_append, List.flatten_cons, List.flatten_nil, List.append_nil]
            omega
        · have hp1 : per (stp o) i = 1 := by
            have := of_decide_eq_false (Bool.eq_false_iff.mpr h)
            rw [List.length_map, List.length_map, List.length_range] at this
            omega
          refine skip ?_
          conv => lhs; unfold rgs
          rw [if_pos (.inr hp1)]
      · rw [decide_eq_false (fun e => h (by injection e with e; omega))]
        refine iteT ?_
        refine ⟨nv i, rfl, .ref pm, rfl, pm, _, rfl, .inl (O5.seq hM.nl), rfl, all_flat _, _, rfl, ?_⟩
        by_cases hmem : i ∈ (rgs (stp o) i).flatten
        · rw [inV_nat, decide_eq_true hmem]
          refine iteF ?_
          have hj1 := hj0 hmem
          subst hj1
          refine ⟨.ref rp, rfl, rp, _, rfl, .inl (.inl (.inl O5.l0)), _, _, rfl, rfl, _, rfl, ite2 (fun h => ?_) (fun h => ?_)⟩
          · exfalso
            have := of_decide_eq_true h
            rw [List.length_map, List.length_map, List.length_range] at this
            omega
          · refine skip ?_
            conv => lhs; unfold rgs
            rw [if_pos (.inl hmem)]
        · rw [inV_nat, decide_eq_false hmem]
          refine iteT ?_
          refine ⟨fun σ' H'' => ∃ m', m' < m ∧ ∃ j, σ' = [some (.ref oa), some (.ref pf), some (.ref pm), some (nv i), some (.ref rp)] ∧ Own T G' H'' ((rp, .lst (((List.range (j + 1)).map (it (stp o) i)).map nv)) :: (pf, .lst fv) :: l) ∧ m' = per (stp o) i - j ∧ j < per (stp o) i ∧ (i ∈ (rgs (stp o) i).flatten → j = 0), fun _ _ h => h, ?_⟩
          refine ⟨.ref rp, rfl, .inl ⟨rfl, _, .inl (.inl O5.l0)⟩, .ref oa, rfl, .ref rp, rfl, _, rfl, rp, _, _, _, rfl, rfl, hl, atI_last _ _, oa, _, _, _, rfl, rfl, O5.seq (s.seq ho), atI_map es, rp, _, _, rfl, rfl, O5.l0, szm (n := 200) (by simp; omega) (by omega), ?_⟩
          rw [← it_range (stp o) i (j + 1)]
          have : j + 1 < per (stp o) i := by
            by_cases g : j + 1 < per (stp o) i
            · exact g
            · exact absurd (by rw [show j + 1 = per (stp o) i by omega]; exact hP.2.1) h
          exact ⟨per (stp o) i - (j + 1), by omega, j + 1, rfl, own_set O5 0 rfl, rfl, this, fun e => absurd e hmem⟩
    · subst e
      exact ⟨.ref pf, rfl, q _ _ pf fv s O3 hF⟩
end
end Fs

set_option maxHeartbeats 4000000
/-! The law's walks, heaps. -/
namespace Fs
open PySem PySem.Spec PyProof.Rows L2
section
variable {P : Program} {w : World} {K : PySem.W.Frag} {mg : Str → Option Value} {base : Heap} {T : TL}
def sp__law_parted (K : PySem.W.Frag) (T : TL) : Sp := fun vs H Q _ => ∃ (G : Hp) (l : List (Addr × HO)) (a : Addr) (zs : List Str), vs = [.ref a] ∧ Own T G H l ∧ SqL K G a (zs.map V.str) ∧ (zs.map (·.length)).sum + zs.length * 3 ≤ 16777216 ∧ ∀ H', Own T G H' l → Q (.str (wds " ; " zs)) H'
theorem sc__law_parted : FnScope ["_law_words_here"] ["_law_words_here"] (defScope s__law_parted) := ⟨rfl, rfl, rfl, by decide +kernel, rfl, by decide +kernel, by decide +kernel⟩
theorem cal__law_parted (t : Ctx K mg base T) : Cal P w K mg base 1 "_law_parted" ["_law_words_here"] (sp__law_parted K T) := by
  refine cal_of t.d__law_parted t.g__law_parted sc__law_parted (fun _ _ _ _ _ _ us hl => match us, hl with | [_], _ => rfl) (fun vs H Q E h => ?_) (fun cdv A outer s H vs Q E hr h => ?_)
  · obtain ⟨G, l, a, zs, rfl, _⟩ := h
    rfl
  · obtain ⟨G, l, a, zs, rfl, O, ha, hn, q⟩ := h
    have hu := hu_of hr
    have hu64 := hr.units
    refine ⟨_, (pss_one (ps_ret (pe_ifExp (pt_cmpR (neNilK hu64) (pv 0) (pe_lst pa_nil) (nomark _)) (joinK pe_str (pv 0)) pe_str))), ?_⟩
    have l1 : (" ; " : Str).length = 3 := by decide
    refine ⟨.ref a, rfl, sz (by show 0 ≤ _; omega), fun pe ne => ?_⟩
    have O1 := own_new (o := .lst []) O ne
    refine ⟨a, pe, zs.map V.str, rfl, rfl, O1.seq ha, .inl (.inl O1.l0), _, rfl, ite2 (fun h => ?_) (fun h => ?_)⟩
    · have h0 : 0 < zs.length := by
        cases zs with
        | nil => exact absurd h (by decide)
        | cons u us => exact Nat.succ_pos _
      refine ⟨⟨_, rfl⟩, .ref a, rfl, _, a, zs, rfl, rfl, O1.seq ha, by rw [l1]; exact hn, ?_⟩
      have := q _ O1.drop
      rw [wds_some h0] at this
      exact this
    · have h0 : zs = [] := by
        cases zs with
        | nil => rfl
        | cons u us => exact absurd rfl h
      subst h0
      exact q _ O1.drop
end
end Fs

set_option maxHeartbeats 4000000
/-! The law's walks. -/
namespace Fs
open PySem PySem.Spec PyProof.Rows L2
theorem join2 (s a b : Str) : Txt.join s [a, b] = a ++ s ++ b := str_ext (by rw [join_cps, cps_app, cps_app]; simp [_root_.TL.joinL])
theorem join3 (s a b c : Str) : Txt.join s [a, b, c] = a ++ s ++ b ++ s ++ c := str_ext (by rw [join_cps, cps_app, cps_app, cps_app, cps_app]; simp [_root_.TL.joinL])
theorem mw_take (p : Nat) : mword (.take p) = ("take " : Str) ++ iw (p : Int) := by
  show Txt.join " " ["take", iw (p : Int)] = _
  rw [join2]
  rfl
theorem mw_lay (p : Nat) : mword (.lay p) = ("lay " : Str) ++ iw (p : Int) := by
  show Txt.join " " ["lay", iw (p : Int)] = _
  rw [join2]
  rfl
theorem mw_move (s p : Nat) : mword (.move s p) = ("move " : Str) ++ iw (s : Int) ++ (" " : Str) ++ iw (p : Int) := by
  show Txt.join " " ["move", iw (s : Int), iw (p : Int)] = _
  rw [join3]
  rfl
end Fs

set_option maxHeartbeats 4000000
/-! The law's walks. -/
namespace Fs
open PySem PySem.Spec PyProof.Rows L2
theorem iw18 {n : Nat} (h : n < 1000) : (iw (n : Int)).length ≤ 19 := (iw_int (n := (n : Int)) (by omega)).2
section
variable {P : Program} {w : World} {K : PySem.W.Frag} {mg : Str → Option Value} {base : Heap} {T : TL}
def sp__law_walk (K : PySem.W.Frag) (T : TL) : Sp := fun vs H Q _ => ∃ (G : Hp) (l : List (Addr × HO)) (oa : Addr) (o : List Nat), vs = [.ref oa] ∧ Own T G H l ∧ NL K G oa o ∧ o.Perm (List.range o.length) ∧ o.length ≤ 200 ∧
  ∀ G' H' p, Same G G' → Own T G' H' ((p, .lst (((allMoves o).map mword).map V.str)) :: l) → Q (.ref p) H'
theorem sc__law_walk : FnScope ["_law_order_here", "_law_found", "_law_ring", "_law_other", "_law_one"] ["_law_order_here"] (defScope s__law_walk) := ⟨rfl, rfl, rfl, by decide +kernel, rfl, by decide +kernel, by decide +kernel⟩
theorem cal__law_walk (t : Ctx K mg base T) : Cal P w K mg base 2 "_law_walk" ["_law_order_here"] (sp__law_walk K T) := by
  refine cal_of t.d__law_walk t.g__law_walk sc__law_walk (fun _ _ _ _ _ _ us hl => match us, hl with | [_], _ => rfl) (fun vs H Q E h => ?_) (fun cdv A outer s H vs Q E hr h => ?_)
  · obtain ⟨G, l, oa, o, rfl, _⟩ := h
    rfl
  · obtain ⟨G, l, oa, o, rfl, O, ho, hp, hn, q⟩ := h
    refine ⟨_, (pss_cons (ps_set (i := 1) sc__law_walk.nd rfl (.inl rfl) (pe_lst pa_nil))
      (pss_cons (ps_for PassesOwn.never rfl (piL (pe_cal (cal__law_rings t) hr (pa_cons (pv 0) pa_nil))) (pg_name (i := 2) sc__law_walk.nd rfl (.inl rfl))
        (pss_cons (ps_expr (bmK PySem.F.plainAttrs_list PySem.F.slot_list_append PySem.F.type_list_append mt_append (pv 1) (pa_cons (pe_op op_add_str pe_str (pe_callTy call_str_int (by rfl) t.str (by decide +kernel) (pa_cons (pe_ix ixL (pv 2) pe_int (fun _ _ => rfl)) pa_nil))) pa_nil)))
        (pss_cons (ps_expr (bmK PySem.F.plainAttrs_list PySem.F.slot_list_extend PySem.F.type_list_extend mt_extend (pv 1) (pa_cons (pe_lc (own := [("_law_other", 3), ("_law_one", 4)]) (g := gTup K 2 (gCons (gName 3) (gCons (gName 4) (gNil)))) (tt := tYes) (by rfl) sc__law_walk.nd (pi_zip (by rfl) t.zip (pa_cons (pv 2) (pa_cons (pe_slice slL (pv 2) (po_some pe_int) po_none) pa_nil))) (blkOk_by (own := [("_law_other", 3), ("_law_one", 4)]) (N := ["_law_order_here", "_law_found", "_law_ring", "_law_other", "_law_one"]) (sc := defScope s__law_walk) (by decide +kernel)) (fun _ _ _ _ _ => (pg_tup (by rfl) (pgs_cons (pg_name (i := 3) sc__law_walk.nd rfl (.inl rfl)) (pgs_cons (pg_name (i := 4) sc__law_walk.nd rfl (.inl rfl)) pgs_nil)))) (fun _ _ _ _ _ => pts_nil) (fun _ _ _ _ _ => (pe_op op_add_str (pe_op op_add_str (pe_op op_add_str pe_str (pe_callTy call_str_int (by rfl) t.str (by decide +kernel) (pa_cons (pv 4) pa_nil))) pe_str) (pe_callTy call_str_int (by rfl) t.str (by decide +kernel) (pa_cons (pv 3) pa_nil))))) pa_nil)))
        (pss_one (ps_expr (bmK PySem.F.plainAttrs_list PySem.F.slot_list_append PySem.F.type_list_append mt_append (pv 1) (pa_cons (pe_op op_add_str pe_str (pe_callTy call_str_int (by rfl) t.str (by decide +kernel) (pa_cons (pe_ix ixL (pv 2) (pe_un un_neg pe_int) (fun _ _ => rfl)) pa_nil))) pa_nil)))))))
      (pss_one (ps_ret (pv 1))))), ?_⟩
    refine ⟨sz (by show 0 ≤ _; omega), fun pf n0 => ?_⟩
    have O1 := own_new (o := .lst []) O n0
    refine ⟨.ref oa, rfl, G, _, oa, o, rfl, O1, ho, hp, hn, fun G2 H2 pr fv s2 O2 hF => ?_⟩
    have O3 := O2.frz
    have s3 := O2.gup
    have hpr : SqL K (upd G2 pr (.lst fv)) pr fv := .inl (.inl upd_same)
    have hF := hF.mono fun _ _ h => LV.up s3 h
    generalize upd G2 pr (.lst fv) = G3 at s3 O3 hpr hF
    have hrl := rgs_len (f := stp o) o.length
    refine ⟨pr, rfl, ⟨_, O3.seq hpr⟩, for_it walk_list (fun i σ H' => ∃ y2 G', σ = [some (.ref oa), some (.ref pf), y2, none, none] ∧ Same G3 G' ∧ Own T G' H' ((pf, .lst (((((rgs (stp o) o.length).take i).map movesOf).flatten.map mword).map V.str)) :: l) ∧ (((rgs (stp o) o.length).take i).map movesOf).flatten.length ≤ i * 201) ⟨none, G3, rfl, Same.refl _, O3, Nat.zero_le _⟩ (fun i σ H' _ ⟨_, _, _, s, O4, _⟩ => O4.seq (s.seq hpr)) (fun i v σ H4 H5 hi ⟨y2, G', e, s, O4, hk⟩ hy => ?_) (fun σ H4 ⟨y2, G', e, s, O4, hk⟩ => ?_)⟩
    · subst e
      obtain ⟨rfl, hy⟩ := hy
      obtain ⟨r, er, ra, rfl, hra⟩ := hF.at_v hy
      have hm := List.mem_of_getElem? er
      have hr1 := rgs_ring (stp_small hp) (stp_inj hp) o.length (Nat.le_refl _) r hm
      have hr2 := rgs_small (stp_small hp) _ (Nat.le_refl _) r hm
      obtain ⟨x, rs, rfl⟩ : ∃ x rs, r = x :: rs := by
        cases r with
        | nil => simp at hr1
        | cons x rs => exact ⟨x, rs, rfl⟩
      have hx : x < 1000 := by have := hr2 x (by simp); omega
      have hra4 : GL G' ra (x :: rs) := s _ _ hra
      have hi : i < fv.length := hi
      have hk2 : i * 201 ≤ 200 * 201 := Nat.mul_le_mul (by rw [hF.1] at hi; omega) (Nat.le_refl _)
      have l5 : ("take " : Str).length = 5 := by decide
      have hix := iw18 hx
      generalize hA : ((((rgs (stp o) o.length).take i).map movesOf).flatten.map mword) = A at O4
      have hAl : A.length ≤ i * 201 := by rw [← hA, List.length_map]; exact hk
      refine ⟨.ref pf, rfl, .inl ⟨rfl, _, .inl (.inl O4.l0)⟩, .ref ra, rfl, ra, _, _, _, rfl, rfl, O4.seq hra4.nl, atI_nat (j := 0) rfl, _, rfl, log_small (by show x < _; omega), _, _, rfl, rfl, sz (by rw [l5]; show 5 + (iw (x : Int)).length ≤ _; omega), _, _, _, rfl, rfl, O4.l0, sz' (by rw [List.length_map]; omega), ?_⟩
      have O5 := own_set (o' := .lst (A.map V.str ++ [.str (("take " : Str) ++ iw (x : Int))])) O4 0 rfl
      refine ⟨.ref pf, rfl, .inl ⟨rfl, _, .inl (.inl O5.l0)⟩, .ref ra, rfl, .ref ra, rfl, _, rfl, ra, _, rfl, O5.seq hra4.nl, fun p3 n3 => ?_⟩
      rw [cut_one, ← List.map_drop]
      have O6 := own_new (o := .lst (rs.map nv)) O5 n3
      have s6 := O6.gup
      have O6 := O6.frz
      have hp3 : NL K (upd G' p3 (.lst (rs.map nv))) p3 rs := .inl (.inl upd_same)
      generalize upd G' p3 (.lst (rs.map nv)) = G6 at s6 O6 hp3
      have zl : ((x :: rs).zip rs).length = rs.length := by rw [List.length_zip, List.length_cons]; omega
      refine ⟨ra, p3, _, _, rfl, O6.seq (s6.seq hra4.nl), O6.seq hp3, fun D nD => lc_valS [some (.ref oa), some (.ref pf), some (.ref ra), none, none] rfl (ys := (x :: rs).zip rs) (walk_zip (xs := (x :: rs).map nv) (ys := rs.map nv) (n := rs.length) (by simp)) O6 nD zl (by simp at hr1; omega) (fun p => .str (mword (.move p.2 p.1))) (fun H' s' => ⟨s'.seq (s6.seq hra4.nl), s'.seq hp3⟩) (fun j v pq H7 H8 acc Qc hj ej O7 hy hQ => ?_) (fun H7 O7 => ?_)⟩
      · obtain ⟨Tp, x1, x2, rfl, nT, rfl, e1, e2⟩ := hy
        obtain ⟨u, eu, rfl⟩ := map_at e1
        obtain ⟨v, ev, rfl⟩ := map_at e2
        have ez : ((x :: rs).zip rs)[j]? = some (u, v) := by
          rw [List.getElem?_zip_eq_some]
          exact ⟨eu, ev⟩
        obtain rfl : (u, v) = pq := Option.some.inj (ez.symm.trans ej)
        have O8 := own_new (o := .tup [nv u, nv v]) O7 nT
        have hu : u < 1000 := by have := hr2 u (List.mem_of_getElem? eu); omega
        have hv : v < 1000 := by have := hr2 v (List.mem_cons_of_mem _ (List.mem_of_getElem? ev)); omega
        have iu := iw18 hu
        have iv := iw18 hv
        have l6 : ("move " : Str).length = 5 := by decide
        have l1 : (" " : Str).length = 1 := by decide
        have fin := hQ _ O8.drop
        rw [mw_move] at fin
        exact ⟨Tp, _, rfl, .inl (.inl O8.l0), rfl, nv u, _, rfl, nv v, _, rfl, rfl, rfl, nv v, rfl, _, rfl, log_small (by show v < _; omega), _, _, rfl, rfl, sz (by rw [l6]; show 5 + (iw (v : Int)).length ≤ _; omega), _, _, rfl, rfl, sz (by rw [len_app, l6, l1]; show 5 + (iw (v : Int)).length + 1 ≤ _; omega), nv u, rfl, _, rfl, log_small (by show u < _; omega), _, _, rfl, rfl, sz (by rw [len_app, len_app, l6, l1]; show 5 + (iw (v : Int)).length + 1 + (iw (u : Int)).length ≤ _; omega), fin⟩
      · have hrl2 : rs.length ≤ 200 := by have := hr1.2; rw [List.length_cons] at this; omega
        have hzl : (((x :: rs).zip rs).map fun p : Nat × Nat => V.str (mword (.move p.2 p.1))).length ≤ 200 := by rw [List.length_map, zl]; exact hrl2
        have hal : (A.map V.str ++ [V.str (("take " : Str) ++ iw (x : Int))]).length ≤ 200 * 201 + 1 := by rw [List.length_append, List.length_map, List.length_singleton]; omega
        refine ⟨pf, D, _, _, rfl, rfl, O7.l1, O7.l0, sz (by omega), ?_⟩
        have O8 := own_set (o' := .lst ((A.map V.str ++ [.str (("take " : Str) ++ iw (x : Int))]) ++ ((x :: rs).zip rs).map fun p : Nat × Nat => V.str (mword (.move p.2 p.1)))) O7.drop 0 rfl
        have hlast : (x :: rs).map nv = ((x :: rs).dropLast).map nv ++ [nv ((x :: rs).getLastD 0)] := by
          rw [map_snoc]
          congr 1
          rw [List.getLastD_eq_getLast?, List.getLast?_eq_some_getLast (List.cons_ne_nil _ _)]
          exact (List.dropLast_concat_getLast (List.cons_ne_nil _ _)).symm
        have hz : (x :: rs).getLastD 0 < 1000 := by
          have : (x :: rs).getLastD 0 ∈ x :: rs := by
            rw [List.getLastD_eq_getLast?, List.getLast?_eq_some_getLast (List.cons_ne_nil _ _)]
            exact List.getLast_mem _
          have := hr2 _ this
          omega
        have iz := iw18 hz
        have l4 : ("lay " : Str).length = 4 := by decide
        refine ⟨.ref pf, rfl, .inl ⟨rfl, _, .inl (.inl O8.l0)⟩, .ref ra, rfl, _, rfl, ra, _, _, _, rfl, rfl, by rw [← hlast]; exact O8.seq (s6.seq hra4.nl), atI_last _ _, _, rfl, log_small (by show (x :: rs).getLastD 0 < _; omega), _, _, rfl, rfl, sz (by rw [l4]; show 4 + (iw (((x :: rs).getLastD 0 : Nat) : Int)).length ≤ _; omega), _, _, _, rfl, rfl, O8.l0, sz' (by rw [List.length_append]; omega), ?_⟩
        have O9 := own_set (o' := .lst ((A.map V.str ++ [.str (("take " : Str) ++ iw (x : Int))] ++ ((x :: rs).zip rs).map fun p : Nat × Nat => V.str (mword (.move p.2 p.1))) ++ [.str (("lay " : Str) ++ iw (((x :: rs).getLastD 0 : Nat) : Int))])) O8 0 rfl
        have et : (((rgs (stp o) o.length).take (i + 1)).map movesOf).flatten = (((rgs (stp o) o.length).take i).map movesOf).flatten ++ movesOf (x :: rs) := by
          rw [take_snoc er, List.map_append, List.flatten_append]
          simp
        refine ⟨some (.ref ra), _, rfl, s.trans s6, ?_, ?_⟩
        · rw [et, List.map_append, hA, List.map_append]
          have em : ((movesOf (x :: rs)).map mword).map V.str = [V.str (("take " : Str) ++ iw (x : Int))] ++ (((x :: rs).zip rs).map fun p : Nat × Nat => V.str (mword (.move p.2 p.1))) ++ [V.str (("lay " : Str) ++ iw (((x :: rs).getLastD 0 : Nat) : Int))] := by
            rw [← mw_take, ← mw_lay]
            unfold movesOf
            simp [Function.comp_def]
          rw [em, ← List.append_assoc, ← List.append_assoc]
          exact O9
        · rw [et, List.length_append]
          have hrl3 : rs.length + 1 ≤ 200 := by have := hr1.2; rw [List.length_cons] at this; omega
          have : (movesOf (x :: rs)).length ≤ 201 := by
            unfold movesOf
            simp [zl]
            omega
          omega
    · subst e
      rw [hF.1, List.take_length] at O4
      exact ⟨.ref pf, rfl, q _ _ pf (s2.trans (s3.trans s)) O4⟩
end
end Fs

set_option maxHeartbeats 4000000
/-! The law's heaps. -/
namespace Fs
open PySem PySem.Spec PyProof.Rows L2
theorem atI_m2 {α : Type} (xs : List α) (u v : α) : atI (xs ++ [u, v]) (-2) = some u := by
  have hl : (xs ++ [u, v]).length = xs.length + 2 := by simp
  have e : ixN (xs ++ [u, v]).length (-2) = some xs.length := by
    unfold ixN
    rw [hl, if_neg (by decide), if_pos (by omega)]
    congr 1
    omega
  unfold atI
  rw [e]
  show (xs ++ [u, v])[xs.length]? = some u
  simp
theorem atI_m1 {α : Type} (xs : List α) (u v : α) : atI (xs ++ [u, v]) (-1) = some v := by
  rw [show xs ++ [u, v] = (xs ++ [u]) ++ [v] by simp]
  exact atI_last _ _
theorem cut_m2 (xs : List V) (u v : V) : cutV (xs ++ [u, v]) none (some (-2)) = xs := by
  unfold cutV
  have hl : (xs ++ [u, v]).length = xs.length + 2 := by simp
  have e : HT.sIx (xs ++ [u, v]).length (xs ++ [u, v]).length (some (-2)) = xs.length := by
    rw [hl]
    unfold HT.sIx
    simp
    omega
  rw [e, HT.sIx_none]
  simp
section
variable {P : Program} {w : World} {K : PySem.W.Frag} {mg : Str → Option Value} {base : Heap} {T : TL}
def sp__law_heaped (K : PySem.W.Frag) (T : TL) : Sp := fun vs H Q _ => ∃ (G : Hp) (l : List (Addr × HO)) (a : Addr) (L : List Nat) (m : Nat), vs = [.ref a, nv m] ∧ Own T G H l ∧ GL G a L.reverse ∧ L.length ≤ 100 ∧
  ∀ G' H' p, Same G G' → Own T G' H' l → GL G' p (hp L m).reverse → Q (.ref p) H'
theorem sc__law_heaped : FnScope ["_law_lengths", "_law_many_here"] ["_law_lengths", "_law_many_here"] (defScope s__law_heaped) := ⟨rfl, rfl, rfl, by decide +kernel, rfl, by decide +kernel, by decide +kernel⟩
theorem cal__law_heaped (t : Ctx K mg base T) : Cal P w K mg base 1 "_law_heaped" ["_law_lengths", "_law_many_here"] (sp__law_heaped K T) := by
  refine cal_of t.d__law_heaped t.g__law_heaped sc__law_heaped (fun _ _ _ _ _ _ us hl => match us, hl with | [_, _], _ => rfl) (fun vs H Q E h => ?_) (fun cdv A outer s H vs Q E hr h => ?_)
  · obtain ⟨G, l, a, L, m, rfl, _⟩ := h
    rfl
  · obtain ⟨G, l, a, L, m, rfl, O, ha, hn, q⟩ := h
    refine ⟨_, (pss_cons (ps_set (i := 0) sc__law_heaped.nd rfl (.inl rfl) (pe_op op_cat (pv 0) (pe_lst (pa_cons (pv 1) pa_nil))))
      (pss_cons (ps_while PassesOwn.never (PW.pt (pw_and (pt_cmpR op_gt (pe_callB lenK (by rfl) t.len (by decide +kernel) (pa_cons (pv 0) pa_nil)) pe_int (nomark _)) (pw_and1 (pt_cmpR op_ge (pe_ix ixL (pv 0) (pe_un un_neg pe_int) (fun _ _ => rfl)) (pe_ix ixL (pv 0) (pe_un un_neg pe_int) (fun _ _ => rfl)) (nomark _)))))
        (pss_one (ps_set (i := 0) sc__law_heaped.nd rfl (.inl rfl) (pe_op op_cat (pe_slice slL (pv 0) po_none (po_some (pe_un un_neg pe_int))) (pe_lst (pa_cons (pe_op op_add (pe_ix ixL (pv 0) (pe_un un_neg pe_int) (fun _ _ => rfl)) (pe_ix ixL (pv 0) (pe_un un_neg pe_int) (fun _ _ => rfl))) pa_nil))))))
      (pss_one (ps_ret (pv 0))))), ?_⟩
    refine ⟨.ref a, rfl, nv m, rfl, sz (by show 1 ≤ _; omega), fun p1 n1 => ?_⟩
    have O1 := own_new (o := .lst [nv m]) O n1
    refine ⟨a, p1, _, _, rfl, rfl, O1.drop.sub _ _ ha, O1.l0, sz (by simp; omega), fun p2 n2 => ?_⟩
    have O2 := own_new (o := .lst (L.reverse.map nv ++ [nv m])) O1.drop n2
    have O3 := O2.frz
    have s3 := O2.gup
    have h0 : GL (upd G p2 (.lst (L.reverse.map nv ++ [nv m]))) p2 (L.reverse ++ [m]) := by
      show upd _ _ _ _ = some (.lst (List.map nv _))
      rw [List.map_append]
      exact upd_same
    generalize upd G p2 (.lst (L.reverse.map nv ++ [nv m])) = G3 at O3 s3 h0
    refine ⟨fun k σ H' => ∃ G' p M m2, σ = [some (.ref p), some (nv m)] ∧ Same G G' ∧ Own T G' H' l ∧ GL G' p (M.reverse ++ [m2]) ∧ hp M m2 = hp L m ∧ M.length ≤ 100 ∧ k = M.length, ⟨_, G3, p2, L, m, rfl, s3, O3, h0, rfl, hn, rfl⟩, fun k σ H' ⟨G', p, M, m2, e, s, O4, hp4, hh, hM, hk⟩ => ?_⟩
    subst e
    have hl : (List.map nv (M.reverse ++ [m2])).length = M.length + 1 := by simp
    refine ⟨.ref p, rfl, p, _, rfl, .inl (O4.seq hp4.nl), _, _, rfl, rfl, _, rfl, ?_⟩
    cases M with
    | nil =>
      rw [decide_eq_false (by rw [hl]; decide)]
      refine iteF ?_
      refine iteF ?_
      refine ⟨.ref p, rfl, q G' _ p s O4 ?_⟩
      rw [← hh]
      exact hp4
    | cons x r =>
      rw [decide_eq_true (by rw [hl, List.length_cons]; omega)]
      refine iteT ?_
      have ev : List.map nv ((x :: r).reverse ++ [m2]) = r.reverse.map nv ++ [nv x, nv m2] := by simp
      have hq : SqL K H' p (r.reverse.map nv ++ [nv x, nv m2]) := by
        rw [← ev]
        exact O4.seq hp4.nl
      refine ⟨.ref p, rfl, _, rfl, p, _, _, _, rfl, rfl, hq, atI_m1 _ _ _, .ref p, rfl, _, rfl, p, _, _, _, rfl, rfl, hq, atI_m2 _ _ _, _, _, rfl, rfl, _, rfl, ?_⟩
      by_cases hx : x ≤ m2
      · rw [decide_eq_true (by omega)]
        refine iteT ?_
        refine ⟨fun σ' H'' => ∃ m', m' < k ∧ ∃ G' p M m2, σ' = [some (.ref p), some (nv m)] ∧ Same G G' ∧ Own T G' H'' l ∧ GL G' p (M.reverse ++ [m2]) ∧ hp M m2 = hp L m ∧ M.length ≤ 100 ∧ m' = M.length, fun _ _ h => h, ?_⟩
        have ec : cutV (r.reverse.map nv ++ [nv x, nv m2]) none (some (-2)) = r.reverse.map nv := cut_m2 _ _ _
        refine ⟨.ref p, rfl, _, rfl, _, rfl, p, _, rfl, hq, fun p1 n1 => ?_⟩
        rw [ec]
        have O5 := own_new (o := .lst (r.reverse.map nv)) O4 n1
        have hq5 : SqL K (upd H' p1 (.lst (r.reverse.map nv))) p (r.reverse.map nv ++ [nv x, nv m2]) := by
          rw [← ev]
          exact O5.seq hp4.nl
        refine ⟨.ref p, rfl, _, rfl, p, _, _, _, rfl, rfl, hq5, atI_m2 _ _ _, .ref p, rfl, _, rfl, p, _, _, _, rfl, rfl, hq5, atI_m1 _ _ _, _, _, rfl, rfl, sz (by show 1 ≤ _; omega), fun p2 n2 => ?_⟩
        have O6 := own_new (o := .lst [nv (x + m2)]) O5 n2
        rw [List.length_cons] at hM hk
        refine ⟨p1, p2, _, _, rfl, rfl, O6.l1, O6.l0, sz (by simp; omega), fun p3 n3 => ?_⟩
        have O7 := own_new (o := .lst (r.reverse.map nv ++ [nv (x + m2)])) O6.drop.drop n3
        refine ⟨r.length, by omega, upd G' p3 (.lst (r.reverse.map nv ++ [nv (x + m2)])), p3, r, x + m2, rfl, s.trans O7.gup, O7.frz, ?_, ?_, by omega, rfl⟩
        · show upd _ _ _ _ = some (.lst (List.map nv _))
          rw [List.map_append]
          exact upd_same
        · rw [← hh]
          conv => rhs; unfold hp
          rw [if_pos hx]
      · rw [decide_eq_false (by omega)]
        refine iteF ?_
        refine ⟨.ref p, rfl, q G' _ p s O4 ?_⟩
        rw [← hh]
        unfold hp
        rw [if_neg hx]
        simpa using hp4
end
end Fs

set_option maxHeartbeats 4000000
/-! The law's look at answers; its great rows. -/
namespace Fs
open PySem PySem.Spec PyProof.Rows L2
theorem ten_at {f : Nat} (h : f < 10) : ("abcdefghij" : Str).cps.toList[f]? = some (97 + f) :=
  (by decide : ∀ g : Fin 10, ("abcdefghij" : Str).cps.toList[g.1]? = some (97 + g.1)) ⟨f, h⟩
section
variable {P : Program} {w : World} {K : PySem.W.Frag} {mg : Str → Option Value} {base : Heap} {T : TL}
theorem eqVK {X : Cx} {K : PySem.W.Frag} (hu : X.A.units + 64 < cLine) (h : X.K = K := by rfl) : OpR X (compareOp .Eq) (rEqV K) := h ▸ op_eqV hu
theorem strs_same {K : PySem.W.Frag} {H : Hp} : ∀ as : List Str, Paired (EqV K H 1) (as.map V.str) (as.map V.str)
  | [] => .nil
  | a :: as => .cons (.inl ⟨rfl, rfl⟩) (strs_same as)
def sp__law_are_answers (K : PySem.W.Frag) (T : TL) : Sp := fun vs H Q _ => ∃ (G : Hp) (l : List (Addr × HO)) (p q : Addr) (as : List Str), vs = [.ref p, .ref q] ∧ Own T G H l ∧ G p = some (.lst (as.map V.str)) ∧ SL K H q as ∧ as.length ≤ 1000 ∧
  ∀ H', Own T G H' l → Q (.bl true) H'
theorem sc__law_are_answers : FnScope ["_law_found", "_law_due", "_law_one"] ["_law_found", "_law_due"] (defScope s__law_are_answers) := ⟨rfl, rfl, rfl, by decide +kernel, rfl, by decide +kernel, by decide +kernel⟩
theorem cal__law_are_answers (t : Ctx K mg base T) : Cal P w K mg base 1 "_law_are_answers" ["_law_found", "_law_due"] (sp__law_are_answers K T) := by
  refine cal_of t.d__law_are_answers t.g__law_are_answers sc__law_are_answers (fun _ _ _ _ _ _ us hl => match us, hl with | [_, _], _ => rfl) (fun vs H Q E h => ?_) (fun cdv A outer s H vs Q E hr h => ?_)
  · obtain ⟨G, l, p, q, as, rfl, _⟩ := h
    rfl
  · obtain ⟨G, l, p, q, as, rfl, O, hp, hq, hn, qq⟩ := h
    have hu := hu_of hr
    have hu64 := hr.units
    refine ⟨_, (pss_one (ps_ret (pe_and (pe_callB isiK (by rfl) t.isinstance (by decide +kernel) (pa_cons (pv 0) (pa_cons (pe_bltn (v := .ty "list") (by rfl) t.list (by decide +kernel) rfl) pa_nil))) (pe_and (pe_cmpR (eqVK hu64) (pv 0) (pv 1) (nomark _)) (pe_one (pe_callB (allK rfl) (by rfl) t.all (by decide +kernel) (pa_cons (pe_lc (own := [("_law_one", 2)]) (g := gName 2) (tt := tYes) (by rfl) sc__law_are_answers.nd (piL (pv 0)) (blkOk_by (own := [("_law_one", 2)]) (N := ["_law_found", "_law_due", "_law_one"]) (sc := defScope s__law_are_answers) (by decide +kernel)) (fun _ _ _ _ _ => (pg_name (i := 2) sc__law_are_answers.nd rfl (.inl rfl))) (fun _ _ _ _ _ => pts_nil) (fun _ _ _ _ _ => (pe_callB isiK (by rfl) t.isinstance (by decide +kernel) (pa_cons (pv 2) (pa_cons (pe_bltn (v := .ty "str") (by rfl) t.str (by decide +kernel) rfl) pa_nil))))) pa_nil))))))), ?_⟩
    have hp' : SqL K G p (as.map V.str) := .inl (.inl hp)
    refine ⟨.ref p, rfl, .ref p, .ty "list", .type "list", .type "list", true, rfl, .ty "list", .base (.lst (O.sub _ _ hp)), kit_ty (by decide +kernel), _, rfl, iteT ?_⟩
    refine ⟨.ref p, rfl, .ref q, rfl, 1, by decide, .inl ⟨p, q, _, _, rfl, rfl, O.seq hp', hq, strs_same as⟩, _, rfl, iteT ?_⟩
    refine ⟨.ref p, rfl, p, rfl, ⟨_, O.seq hp'⟩, fun D nD => lc_valS [some (.ref p), some (.ref q), none] rfl (ys := as) walk_list O nD (by simp) (by rw [List.length_map]; omega) (fun _ => .bl true) (fun H' s => s.seq hp') (fun i x z H1 H2 acc Qc hi ez O2 hy hQ => ?_) (fun H3 O3 => ?_)⟩
    · obtain ⟨rfl, hy⟩ := hy
      obtain ⟨z', ez', rfl⟩ := map_at hy
      exact ⟨rfl, .str z', rfl, .str z', .ty "str", .type "str", .type "str", true, rfl, .ty "str", .base (.str _), kit_ty (by decide +kernel), hQ _ O2⟩
    · refine ⟨D, as.map fun _ => true, rfl, .inl (.inl (by rw [O3.l0, List.map_map]; rfl)), ?_⟩
      have e : (as.map fun _ => true).all id = true := by
        rw [List.all_map, List.all_eq_true]
        intro _ _
        rfl
      rw [e]
      exact qq _ O3.drop
def sp__law_great (K : PySem.W.Frag) (T : TL) : Sp := fun vs H Q _ => ∃ (G : Hp) (l : List (Addr × HO)) (ta a b c : Nat) (kd : Kd), vs = [.ref ta, .str kd.s] ∧ Own T G H ((ta, tpO a b c) :: l) ∧
  ∀ G' H' a' b' c' v ks, Same G G' → Own T G' H' ((ta, tpO a' b' c') :: l) → LKL K G' v ks → (∀ k ∈ ks, KyOk kd k) → ks.length ≤ 90 → Q v H'
theorem sc__law_great : FnScope ["_law_tape_here", "_law_kind", "_law_found", "_law_k", "_law_figure"] ["_law_tape_here", "_law_kind"] (defScope s__law_great) := ⟨rfl, rfl, rfl, by decide +kernel, rfl, by decide +kernel, by decide +kernel⟩
theorem cal__law_great (t : Ctx K mg base T) : Cal P w K mg base 2 "_law_great" ["_law_tape_here", "_law_kind"] (sp__law_great K T) := by
  refine cal_of t.d__law_great t.g__law_great sc__law_great (fun _ _ _ _ _ _ us hl => match us, hl with | [_, _], _ => rfl) (fun vs H Q E h => ?_) (fun cdv A outer s H vs Q E hr h => ?_)
  · obtain ⟨G, l, ta, a, b, c, kd, rfl, _⟩ := h
    rfl
  · obtain ⟨G, l, ta, a, b, c, kd, rfl, O, q⟩ := h
    refine ⟨_, (pss_cons (ps_set (i := 2) sc__law_great.nd rfl (.inl rfl) (pe_lst pa_nil))
      (pss_cons (ps_for PassesOwn.never rfl (pi_range1 rfl t.range (pa_cons (pe_op op_add pe_int (pe_op op_mul (pe_op op_mul pe_int (pe_cal (cal__law_draw t) hr (pa_cons (pv 0) (pa_cons pe_int pa_nil)))) (pe_callTy call_int1 (by rfl) t.int (by decide +kernel) (pa_cons (pe_cmpR op_ne (pv 1) pe_str (nomark _)) pa_nil)))) pa_nil)) (pg_name (i := 3) sc__law_great.nd rfl (.inl rfl))
        (pss_cons (ps_set (i := 4) sc__law_great.nd rfl (.inl rfl) (pe_cal (cal__law_draw t) hr (pa_cons (pv 0) (pa_cons pe_int pa_nil))))
        (pss_one (ps_if (pt_cmpR op_eq (pv 1) pe_str (nomark _))
          (pss_one (ps_expr (bmK PySem.F.plainAttrs_list PySem.F.slot_list_append PySem.F.type_list_append mt_append (pv 2) (pa_cons (pe_tup (pa_cons (pe_op op_add_str pe_str (pe_ix ix_str pe_str (pv 4) (fun _ _ => rfl))) (pa_cons (pe_ix ix_str pe_str (pv 4) (fun _ _ => rfl)) pa_nil))) pa_nil))))
          (pss_one (ps_expr (bmK PySem.F.plainAttrs_list PySem.F.slot_list_append PySem.F.type_list_append mt_append (pv 2) (pa_cons (pe_ix ixL (pe_lst (pa_cons (pe_tup (pa_cons (pe_callTy call_str_int (by rfl) t.str (by decide +kernel) (pa_cons (pv 4) pa_nil)) (pa_cons (pv 4) pa_nil))) (pa_cons (pe_cal (cal__law_part t) hr (pa_cons (pv 4) (pa_cons pe_int pa_nil))) pa_nil))) (pe_callTy call_int1 (by rfl) t.int (by decide +kernel) (pa_cons (pe_cmpR op_eq (pv 1) pe_str (nomark _)) pa_nil)) (fun _ _ => rfl)) pa_nil))))))))
      (pss_one (ps_ret (pv 2))))), ?_⟩
    refine ⟨sz (by show 0 ≤ _; omega), fun pf nf => ?_⟩
    have O1 := own_new (o := .lst []) O nf
    refine ⟨.ref ta, rfl, G, _, ta, a, b, c, 4, rfl, O1.swap, by omega, by omega, fun H5 a5 b5 c5 z hz O5 => ?_⟩
    obtain ⟨n, hn, hle⟩ : ∃ n : Nat, (60 : Int) + 10 * (z : Int) * (if (!decide (V.str kd.s = V.str ("text" : Str))) = true then 1 else 0) = (n : Int) ∧ n ≤ 90 := by
      cases (!decide (V.str kd.s = V.str ("text" : Str)))
      · exact ⟨60, by simp, by omega⟩
      · exact ⟨60 + 10 * z, by simp, by omega⟩
    refine ⟨_, _, rfl, rfl, .inl ⟨by decide, by decide⟩, .str kd.s, rfl, rfl, .inr ⟨_, rfl, _, _, rfl, rfl, .inr (b01 _), _, _, rfl, rfl, (n : Int), congrArg (fun z => [V.int z]) hn, by omega, by omega, ?_⟩⟩
    refine for_range (lo := 0) (n := n) (fun i σ H' => ∃ y3 y4, σ = [some (.ref ta), some (.str kd.s), some (.ref pf), y3, y4] ∧ ∃ G1 a1 b1 c1 us ks, Same G G1 ∧ Own T G1 H' ((pf, .lst us) :: (ta, tpO a1 b1 c1) :: l) ∧ LKs K G1 us ks ∧ (∀ k ∈ ks, KyOk kd k) ∧ ks.length = i) ⟨none, none, rfl, G, a5, b5, c5, [], [], Same.refl G, O5.swap, Each.nil, fun k h => (List.not_mem_nil h).elim, rfl⟩ (fun i σ H' hi ⟨y3, y4, e, G1, a1, b1, c1, us, ks, s1, O2, he, ho, hk⟩ => ?_) (fun σ H' ⟨y3, y4, e, G1, a1, b1, c1, us, ks, s1, O2, he, ho, hk⟩ => ?_)
    · subst e
      show gName 3 (.int (0 + (i : Int))) _ _ _
      rw [Int.zero_add]
      have hul := he.1
      refine ⟨.ref ta, rfl, G1, _, ta, a1, b1, c1, 10, rfl, O2.swap, by omega, by omega, fun H3 a3 b3 c3 f hf O3 => ?_⟩
      have text : kd = .X ∨ V.str kd.s ≠ V.str ("text" : Str) := by cases kd <;> first | exact .inl rfl | exact .inr (by decide)
      refine ⟨.str kd.s, rfl, rfl, _, rfl, ?_⟩
      rcases text with rfl | hkd
      · rw [decide_eq_true (by rfl)]
        have l1 : ("'" : Str).length = 1 := by decide
        have l2 : (⟨#[97 + f]⟩ : Str).length = 1 := rfl
        refine iteT ⟨.ref pf, rfl, .inl ⟨rfl, _, .inl (.inl O3.l1)⟩, nv f, rfl, _, _, _, rfl, rfl, by decide, atI_nat (j := f) (ten_at hf), _, _, rfl, rfl, sz (by rw [l1, l2]; omega), nv f, rfl, _, _, _, rfl, rfl, by decide, atI_nat (j := f) (ten_at hf), two_ok, fun z1 nz1 => ?_⟩
        have O4 := own_new (o := .tup [.str (("'" : Str) ++ ⟨#[97 + f]⟩), .str ⟨#[97 + f]⟩]) O3 nz1
        have s4 := O4.gup
        have O5 := O4.frz
        refine ⟨_, _, _, rfl, rfl, O5.l1, sz' (by omega), ?_⟩
        have O6 := own_set (o' := .lst (us ++ [.ref z1])) O5 1 rfl
        refine ⟨_, _, rfl, _, a3, b3, c3, us ++ [.ref z1], ks ++ [.txt ⟨#[97 + f]⟩], s1.trans s4, O6.swap, (he.mono fun _ _ h => LKV.up s4 h).snoc ⟨z1, rfl, .inl (.inl upd_same)⟩, fun k hk => ?_, by rw [List.length_append, hk]; rfl⟩
        rcases List.mem_append.mp hk with hk | hk
        · exact ho k hk
        · rw [List.mem_singleton.mp hk]
          refine ⟨fun c hc => ?_, by rw [l2]; omega⟩
          obtain rfl := List.mem_singleton.mp (show c ∈ [97 + f] from hc)
          omega
      · rw [decide_eq_false hkd]
        have if18 := iw18 (n := f) (by omega)
        refine iteF ⟨.ref pf, rfl, .inl ⟨rfl, _, .inl (.inl O3.l1)⟩, nv f, rfl, _, rfl, log_small (by show f < _; omega), nv f, rfl, two_ok, fun z1 nz1 => ?_⟩
        have O4 := own_new (o := .tup [.str (iw (f : Int)), nv f]) O3 nz1
        have s4 := O4.gup
        have O4 := O4.frz
        have h4 : LKV K (upd G1 z1 (.tup [.str (iw (f : Int)), nv f])) (.ref z1) (.num (f : Int)) := ⟨z1, rfl, .inl (.inl upd_same)⟩
        generalize upd G1 z1 (.tup [.str (iw (f : Int)), nv f]) = G4 at s4 O4 h4
        refine ⟨nv f, rfl, G4, _, (f : Int), 1, rfl, O4, by omega, by omega, by omega, fun G5 H5 v5 k5 s5 O5 hk5 hv5 => ⟨two_ok, fun pl nl => ?_⟩⟩
        have O6 := own_new (o := .lst [.ref z1, v5]) O5 nl
        have h5 := h4.up s5
        have s45 := s4.trans s5
        have fin : ∀ (v : V) (k : Ky), LKV K G5 v k → KyOk kd k → ∃ y3 y4, [some (V.ref ta), some (V.str kd.s), some (V.ref pf), some (nv i), some (nv f)] = [some (V.ref ta), some (V.str kd.s), some (V.ref pf), y3, y4] ∧ ∃ G1 a1 b1 c1 us2 ks, Same G G1 ∧ Own T G1 (upd (upd H5 pl (.lst [.ref z1, v5])) pf (.lst (us ++ [v]))) ((pf, HO.lst us2) :: (ta, tpO a1 b1 c1) :: l) ∧ LKs K G1 us2 ks ∧ (∀ k ∈ ks, KyOk kd k) ∧ ks.length = i + 1 := fun v k hv hk2 => by
          have O7 := own_set (o' := .lst (us ++ [v])) O6 2 rfl
          refine ⟨_, _, rfl, G5, a3, b3, c3, us ++ [v], ks ++ [k], s1.trans s45, O7.drop.swap, (he.mono fun _ _ h => LKV.up s45 h).snoc hv, fun k3 hk3 => ?_, by rw [List.length_append, hk]; rfl⟩
          rcases List.mem_append.mp hk3 with hk3 | hk3
          · exact ho k3 hk3
          · rw [List.mem_singleton.mp hk3]
            exact hk2
        refine ⟨.str kd.s, rfl, rfl, .inr ⟨_, rfl, ?_⟩⟩
        cases kd with
        | X => exact absurd rfl hkd
        | N =>
          rw [decide_eq_false (by decide : ¬ V.str Kd.N.s = V.str ("part" : Str))]
          exact ⟨pl, _, _, _, rfl, rfl, .inl (.inl O6.l0), atI_nat (j := 0) rfl, _, _, _, rfl, rfl, O6.l2, sz' (by omega), fin _ _ h5 (by show (f : Int).natAbs < 10 ^ 18; omega)⟩
        | P =>
          rw [decide_eq_true (by rfl : V.str Kd.P.s = V.str ("part" : Str))]
          exact ⟨pl, _, _, _, rfl, rfl, .inl (.inl O6.l0), atI_nat (j := 1) rfl, _, _, _, rfl, rfl, O6.l2, sz' (by omega), fin _ _ hv5 hk5⟩
    · subst e
      exact ⟨.ref pf, rfl, q _ _ a1 b1 c1 (.ref pf) ks (s1.trans O2.gup) O2.frz ⟨pf, us, rfl, upd_same, he.mono fun _ _ h => LKV.up O2.gup h⟩ ho (by omega)⟩
end
end Fs

set_option maxHeartbeats 4000000
/-! The law's deeds. -/
namespace Fs
open PySem PySem.Spec PyProof.Rows L2
abbrev stO (pk pp pl : Addr) : HO := .dK [(.inr "keys", .ref pk), (.inr "poured", .ref pp), (.inr "lengths", .ref pl)]
section
variable {H : Hp} {d pk pp pl p : Addr}
theorem get_k (e : H d = some (stO pk pp pl)) : DGet H d (.str "keys") (some (.ref pk)) := DGet.k (k := .inr "keys") e
theorem get_p (e : H d = some (stO pk pp pl)) : DGet H d (.str "poured") (some (.ref pp)) := DGet.k (k := .inr "poured") e
theorem get_l (e : H d = some (stO pk pp pl)) : DGet H d (.str "lengths") (some (.ref pl)) := DGet.k (k := .inr "lengths") e
theorem put_k (e : H d = some (stO pk pp pl)) : DPut H d (.str "keys") (.ref p) (upd H d (stO p pp pl)) := DPut.k (k := .inr "keys") e (sz' (by show 3 < _; omega))
theorem put_p (e : H d = some (stO pk pp pl)) : DPut H d (.str "poured") (.ref p) (upd H d (stO pk p pl)) := DPut.k (k := .inr "poured") e (sz' (by show 3 < _; omega))
theorem put_l (e : H d = some (stO pk pp pl)) : DPut H d (.str "lengths") (.ref p) (upd H d (stO pk pp p)) := DPut.k (k := .inr "lengths") e (sz' (by show 3 < _; omega))
end
theorem LKL.up {K : PySem.W.Frag} {G G' : Hp} {v : V} {ks : List Ky} (s : Same G G') (h : LKL K G v ks) : LKL K G' v ks := by
  obtain ⟨p, us, e, h1, h2⟩ := h
  exact ⟨p, us, e, s _ _ h1, h2.mono fun _ _ h => LKV.up s h⟩
theorem lens_sum : ∀ (ps : List (List Ky)) (L : List Nat), (lensOf ps L).sum = L.sum + ps.flatten.length
  | [], L => by simp [lensOf]
  | h :: ps, L => by
    show (lensOf ps (hp L.reverse h.length).reverse).sum = _
    rw [lens_sum ps, List.sum_reverse, hp_sum, List.sum_reverse, List.flatten_cons, List.length_append]
    omega
/-- what the law keeps of its ghost rows -/
structure StV (K : PySem.W.Frag) (kd : Kd) (G : Hp) (pk pp pl : Addr) (ops : List Op) (n : Nat) : Prop where
  k : LKL K G (.ref pk) (keysOf ops [])
  ko : ∀ k ∈ keysOf ops [], KyOk kd k
  kn : (keysOf ops []).length ≤ 90
  p : LKL K G (.ref pp) (poursOf ops []).flatten
  po : ∀ k ∈ (poursOf ops []).flatten, KyOk kd k
  pn : (poursOf ops []).flatten.length ≤ 12 * n
  l : GL G pl (lensOf (poursOf ops []) [])
  ln : (lensOf (poursOf ops []) []).length ≤ n
  ok : ∀ op ∈ ops, OpOk kd op
  sm : (ops.map Fs.pn).sum ≤ 12 * n
theorem StV.up {K : PySem.W.Frag} {kd : Kd} {G G' : Hp} {pk pp pl : Addr} {ops : List Op} {n : Nat} (s : Same G G') (h : StV K kd G pk pp pl ops n) : StV K kd G' pk pp pl ops n :=
  ⟨h.k.up s, h.ko, h.kn, h.p.up s, h.po, h.pn, s _ _ h.l, h.ln, h.ok, h.sm⟩
theorem ok_snoc {kd : Kd} {ops : List Op} {op : Op} (h : ∀ o ∈ ops, OpOk kd o) (g : OpOk kd op) : ∀ o ∈ ops ++ [op], OpOk kd o := fun o ho => by
  rcases List.mem_append.mp ho with ho | ho
  · exact h o ho
  · rw [List.mem_singleton.mp ho]
    exact g
theorem StV.row {K : PySem.W.Frag} {kd : Kd} {G : Hp} {pk pk2 pp pl : Addr} {ops : List Op} {n : Nat} {ks : List Ky} (h : StV K kd G pk pp pl ops n) (hk : LKL K G (.ref pk2) ks) (ho : ∀ k ∈ ks, KyOk kd k) (hn : ks.length ≤ 90) : StV K kd G pk2 pp pl (ops ++ [.row ks]) (n + 1) := by
  have e1 : keysOf (ops ++ [.row ks]) [] = ks := by rw [keysOf_app]; rfl
  have e2 : poursOf (ops ++ [.row ks]) [] = poursOf ops [] := by rw [poursOf_app]; rfl
  refine ⟨by rw [e1]; exact hk, by rw [e1]; exact ho, by rw [e1]; exact hn, by rw [e2]; exact h.p, by rw [e2]; exact h.po, by rw [e2]; have := h.pn; omega, by rw [e2]; exact h.l, by rw [e2]; have := h.ln; omega, ok_snoc h.ok ⟨ho, by omega⟩, ?_⟩
  rw [List.map_append, List.sum_append]
  have := h.sm
  simp [Fs.pn]
  omega
theorem StV.pour {K : PySem.W.Frag} {kd : Kd} {G : Hp} {pk pp pl pp2 pl2 : Addr} {ops : List Op} {n : Nat} {hs : List Ky} (h : StV K kd G pk pp pl ops n) (hp2 : LKL K G (.ref pp2) ((poursOf ops []).flatten ++ hs)) (hl2 : GL G pl2 (hp (lensOf (poursOf ops []) []).reverse hs.length).reverse) (ho : ∀ k ∈ hs, KyOk kd k) (h1 : 1 ≤ hs.length) (hn : hs.length ≤ 12) : StV K kd G pk pp2 pl2 (ops ++ [.pour hs]) (n + 1) := by
  have e1 : keysOf (ops ++ [.pour hs]) [] = keysOf ops [] := by rw [keysOf_app]; rfl
  have e2 : poursOf (ops ++ [.pour hs]) [] = poursOf ops [] ++ [hs] := by rw [poursOf_app]; rfl
  have e3 : (poursOf ops [] ++ [hs]).flatten = (poursOf ops []).flatten ++ hs := by simp
  refine ⟨by rw [e1]; exact h.k, by rw [e1]; exact h.ko, by rw [e1]; exact h.kn, by rw [e2, e3]; exact hp2, fun k hk => ?_, by rw [e2, e3, List.length_append]; have := h.pn; omega, by rw [e2, lensOf_snoc]; exact hl2, by rw [e2]; have := lens_snoc_len (poursOf ops []) hs; have := h.ln; omega, ok_snoc h.ok ⟨ho, h1, by omega⟩, ?_⟩
  · rw [e2, e3] at hk
    exact (List.mem_append.mp hk).elim (h.po k) (ho k)
  · rw [List.map_append, List.sum_append]
    have := h.sm
    simp [Fs.pn]
    omega
theorem StV.ask {K : PySem.W.Frag} {kd : Kd} {G : Hp} {pk pp pl : Addr} {ops : List Op} {n : Nat} {op : Op} (h : StV K kd G pk pp pl ops n) (ha : (∃ z, op = .sort z) ∨ ∃ z, op = .ask z) (ho : OpOk kd op) : StV K kd G pk pp pl (ops ++ [op]) n := by
  have e1 : keysOf (ops ++ [op]) [] = keysOf ops [] := by rw [keysOf_app]; rcases ha with ⟨z, rfl⟩ | ⟨z, rfl⟩ <;> rfl
  have e2 : poursOf (ops ++ [op]) [] = poursOf ops [] := by rw [poursOf_app]; rcases ha with ⟨z, rfl⟩ | ⟨z, rfl⟩ <;> rfl
  have e3 : Fs.pn op = 0 := by rcases ha with ⟨z, rfl⟩ | ⟨z, rfl⟩ <;> rfl
  refine ⟨by rw [e1]; exact h.k, by rw [e1]; exact h.ko, by rw [e1]; exact h.kn, by rw [e2]; exact h.p, by rw [e2]; exact h.po, by rw [e2]; exact h.pn, by rw [e2]; exact h.l, by rw [e2]; exact h.ln, ok_snoc h.ok ho, ?_⟩
  rw [List.map_append, List.sum_append]
  have := h.sm
  simp [e3]
  omega
theorem kwd_max {kd : Kd} {ks : List Ky} (ho : ∀ k ∈ ks, KyOk kd k) (hn : ks.length ≤ 90) (z : Str) (hz : z.length ≤ 4) : (([z] ++ ks.map kwd).map (·.length)).sum + ([z] ++ ks.map kwd).length * (" " : Str).length ≤ 16777216 := by
  have h1 : ((ks.map kwd).map (·.length)).sum ≤ (ks.map kwd).length * 100 := len_sum fun y hy => by
    obtain ⟨k, hk, rfl⟩ := List.mem_map.mp hy
    exact (kwd_len (ho k hk)).1
  have l1 : (" " : Str).length = 1 := by decide
  rw [List.length_map] at h1
  rw [l1]
  simp only [List.map_append, List.sum_append, List.length_append, List.map_cons, List.map_nil, List.sum_cons, List.sum_nil, List.length_cons, List.length_nil, List.length_map]
  rw [List.map_map] at h1
  rw [List.map_map]
  omega
theorem pick_any {R : V → Ky → Prop} {us : List V} {ks : List Ky} {o : List Nat} (h : Each R us ks) (ho : ∀ i ∈ o, i < ks.length) : Each R (o.map fun i => us.getD i .non) (pick ks o) := by
  refine ⟨by simp, fun i v k h1 h2 => ?_⟩
  obtain ⟨j, ej, rfl⟩ := map_at h1
  rw [List.getElem?_map, ej] at h2
  obtain rfl := Option.some.inj h2
  have hj := ho j (List.mem_of_getElem? ej)
  exact h.2 j _ _ (getD_at (by rw [h.1]; exact hj)) (getD_at hj)
theorem rev_any {R : V → Ky → Prop} {us : List V} {ks : List Ky} (h : Each R us ks) : Each R us.reverse ks.reverse := by
  refine ⟨by rw [List.length_reverse, List.length_reverse, h.1], fun i v k h1 h2 => ?_⟩
  have hi : i < us.length := by
    have := (List.getElem?_eq_some_iff.mp h1).1
    rwa [List.length_reverse] at this
  rw [List.getElem?_reverse hi] at h1
  rw [List.getElem?_reverse (by rw [← h.1]; exact hi), ← h.1] at h2
  exact h.2 _ v k h1 h2
section
variable {P : Program} {w : World} {K : PySem.W.Frag} {mg : Str → Option Value} {base : Heap} {T : TL}
def sp__law_deed (K : PySem.W.Frag) (T : TL) : Sp := fun vs H Q _ => ∃ (G : Hp) (l : List (Addr × HO)) (ta a b c ds pk pp pl : Nat) (kd : Kd) (ops : List Op) (n : Nat), vs = [.ref ta, .str kd.s, .ref ds] ∧ Own T G H ((ta, tpO a b c) :: (ds, stO pk pp pl) :: l) ∧ StV K kd G pk pp pl ops n ∧ n ≤ 20 ∧
  ∀ G' H' a' b' c' pk' pp' pl' op, Same G G' → Own T G' H' ((ta, tpO a' b' c') :: (ds, stO pk' pp' pl') :: l) → StV K kd G' pk' pp' pl' (ops ++ [op]) (n + 1) → ((∃ ks, op = .row ks) ∨ ∃ ks, op = .pour ks) → OpOk kd op → Q (.str (rtxt (opw op))) H'
theorem sc__law_deed : FnScope ["_law_tape_here", "_law_kind", "_law_state", "_law_more", "_law_key_here", "_law_way", "_law_k"] ["_law_tape_here", "_law_kind", "_law_state"] (defScope s__law_deed) := ⟨rfl, rfl, rfl, by decide +kernel, rfl, by decide +kernel, by decide +kernel⟩
theorem cal__law_deed (t : Ctx K mg base T) : Cal P w K mg base 4 "_law_deed" ["_law_tape_here", "_law_kind", "_law_state"] (sp__law_deed K T) := by
  refine cal_of t.d__law_deed t.g__law_deed sc__law_deed (fun _ _ _ _ _ _ us hl => match us, hl with | [_, _, _], _ => rfl) (fun vs H Q E h => ?_) (fun cdv A outer s H vs Q E hr h => ?_)
  · obtain ⟨G, l, ta, a, b, c, ds, pk, pp, pl, kd, ops, n, rfl, _⟩ := h
    rfl
  · obtain ⟨G, l, ta, a, b, c, ds, pk, pp, pl, kd, ops, n, rfl, O, hS, hn, q⟩ := h
    have hu := hu_of hr
    have hu64 := hr.units
    refine ⟨_, (pss_cons (ps_set (i := 3) sc__law_deed.nd rfl (.inl rfl) (pe_cal (cal__law_keys t) hr (pa_cons (pv 0) (pa_cons (pv 1) (pa_cons (pe_cal (cal__law_many t) hr (pa_cons (pv 0) pa_nil)) pa_nil)))))
      (pss_cons (ps_if (pt_cmpR op_eq (pe_cal (cal__law_draw t) hr (pa_cons (pv 0) (pa_cons pe_int pa_nil))) pe_int (nomark _))
        (pss_cons (ps_dput hu (pv 2) pe_str (pe_cal (cal__law_great t) hr (pa_cons (pv 0) (pa_cons (pv 1) pa_nil))) rfl)
        (pss_one (ps_ret (joinK pe_str (pe_op op_cat (pe_lst (pa_cons pe_str pa_nil)) (pe_lc (own := [("_law_key_here", 4)]) (g := gName 4) (tt := tYes) (by rfl) sc__law_deed.nd (piL (pe_dget hu (pv 2) pe_str (fun _ _ => rfl))) (blkOk_by (own := [("_law_key_here", 4)]) (N := ["_law_tape_here", "_law_kind", "_law_state", "_law_more", "_law_key_here", "_law_way", "_law_k"]) (sc := defScope s__law_deed) (by decide +kernel)) (fun _ _ _ _ _ => (pg_name (i := 4) sc__law_deed.nd rfl (.inl rfl))) (fun _ _ _ _ _ => pts_nil) (fun _ _ _ _ _ => (pe_ix ixT (pv 4) pe_int (fun _ _ => rfl)))))))))
        pss_nil)
      (pss_cons (ps_set (i := 5) sc__law_deed.nd rfl (.inl rfl) (pe_cal (cal__law_draw t) hr (pa_cons (pv 0) (pa_cons pe_int pa_nil))))
      (pss_cons (ps_if (PW.pt (pw_and (pt_cmpR op_eq (pv 5) pe_int (nomark _)) (pw_and1 (pt_cmpR (neNilK hu64) (pe_dget hu (pv 2) pe_str (fun _ _ => rfl)) (pe_lst pa_nil) (nomark _)))))
        (pss_one (ps_set (i := 3) sc__law_deed.nd rfl (.inl rfl) (pe_ix ixL (pe_lst (pa_cons (revLK (pe_dget hu (pv 2) pe_str (fun _ _ => rfl))) (pa_cons (pe_lc (own := [("_law_k", 6)]) (g := gName 6) (tt := tYes) (by rfl) sc__law_deed.nd (piL (pe_cal (cal__law_order t) hr (pa_cons (pe_dget hu (pv 2) pe_str (fun _ _ => rfl)) pa_nil))) (blkOk_by (own := [("_law_k", 6)]) (N := ["_law_tape_here", "_law_kind", "_law_state", "_law_more", "_law_key_here", "_law_way", "_law_k"]) (sc := defScope s__law_deed) (by decide +kernel)) (fun _ _ _ _ _ => (pg_name (i := 6) sc__law_deed.nd rfl (.inl rfl))) (fun _ _ _ _ _ => pts_nil) (fun _ _ _ _ _ => (pe_ix ixL (pe_dget hu (pv 2) pe_str (fun _ _ => rfl)) (pv 6) (fun _ _ => rfl)))) pa_nil))) (pe_cal (cal__law_draw t) hr (pa_cons (pv 0) (pa_cons pe_int pa_nil))) (fun _ _ => rfl))))
        pss_nil)
      (pss_cons (ps_if (PW.pt (pw_or (pt_cmpR op_lt (pv 5) pe_int (nomark _)) (pw_or1 (pt_cmpR (eqNilK hu64) (pv 3) (pe_lst pa_nil) (nomark _)))))
        (pss_cons (ps_dput hu (pv 2) pe_str (pv 3) rfl)
        (pss_one (ps_ret (joinK pe_str (pe_op op_cat (pe_lst (pa_cons pe_str pa_nil)) (pe_lc (own := [("_law_key_here", 4)]) (g := gName 4) (tt := tYes) (by rfl) sc__law_deed.nd (piL (pv 3)) (blkOk_by (own := [("_law_key_here", 4)]) (N := ["_law_tape_here", "_law_kind", "_law_state", "_law_more", "_law_key_here", "_law_way", "_law_k"]) (sc := defScope s__law_deed) (by decide +kernel)) (fun _ _ _ _ _ => (pg_name (i := 4) sc__law_deed.nd rfl (.inl rfl))) (fun _ _ _ _ _ => pts_nil) (fun _ _ _ _ _ => (pe_ix ixT (pv 4) pe_int (fun _ _ => rfl)))))))))
        pss_nil)
      (pss_cons (ps_dput hu (pv 2) pe_str (pe_op op_cat (pe_dget hu (pv 2) pe_str (fun _ _ => rfl)) (pv 3)) rfl)
      (pss_cons (ps_dput hu (pv 2) pe_str (pe_cal (cal__law_heaped t) hr (pa_cons (pe_dget hu (pv 2) pe_str (fun _ _ => rfl)) (pa_cons (pe_callB lenK (by rfl) t.len (by decide +kernel) (pa_cons (pv 3) pa_nil)) pa_nil))) rfl)
      (pss_one (ps_ret (joinK pe_str (pe_op op_cat (pe_lst (pa_cons pe_str pa_nil)) (pe_lc (own := [("_law_key_here", 4)]) (g := gName 4) (tt := tYes) (by rfl) sc__law_deed.nd (piL (pv 3)) (blkOk_by (own := [("_law_key_here", 4)]) (N := ["_law_tape_here", "_law_kind", "_law_state", "_law_more", "_law_key_here", "_law_way", "_law_k"]) (sc := defScope s__law_deed) (by decide +kernel)) (fun _ _ _ _ _ => (pg_name (i := 4) sc__law_deed.nd rfl (.inl rfl))) (fun _ _ _ _ _ => pts_nil) (fun _ _ _ _ _ => (pe_ix ixT (pv 4) pe_int (fun _ _ => rfl))))))))))))))), ?_⟩
    refine ⟨.ref ta, rfl, .str kd.s, rfl, .ref ta, rfl, G, _, ta, a, b, c, rfl, O, fun H1 a1 b1 c1 m hm O1 => ?_⟩
    refine ⟨G, _, ta, a1, b1, c1, kd, m, rfl, O1, hm, fun G5 H2 a2 b2 c2 vm more5 s5 O2 hv hmo5 hml5 => ?_⟩
    obtain ⟨pm5, um5, rfl, hpm5, hem5⟩ := hv
    have hS5 := hS.up s5
    have hml6 : more5.length ≤ 90 := by omega
    refine ⟨.ref ta, rfl, G5, _, ta, a2, b2, c2, 8, rfl, O2, by omega, by omega, fun H3 a3 b3 c3 z hz O3 => ?_⟩
    refine ⟨rfl, _, rfl, ite2 (fun h => ?_) (fun h => ?_)⟩
    · refine ⟨.ref ta, rfl, .str kd.s, rfl, G5, _, ta, a3, b3, c3, kd, rfl, O3, fun G4 H4 a4 b4 c4 v ks s4 O4 hv4 hk4 hl4 => ?_⟩
      have hv5 := hv4
      obtain ⟨pk2, us, rfl, hpk2, he⟩ := hv4
      refine ⟨.ref ds, rfl, ds, _, rfl, put_k O4.l1, ?_⟩
      have O5 := own_set (o' := stO pk2 pp pl) O4 1 rfl
      refine ⟨⟨_, rfl⟩, sz (by show 1 ≤ _; omega), fun p1 n1 => ?_⟩
      have O6 := own_new (o := .lst [.str "row"]) O5 n1
      refine ⟨.ref ds, rfl, ds, .ref pk2, rfl, get_k O6.l2, pk2, rfl, ⟨_, .inl (.inl (O6.sub _ _ hpk2))⟩, fun D nD => lc_valS [some (.ref ta), some (.str kd.s), some (.ref ds), some (.ref pm5), none, none, none] rfl (ys := ks) walk_list O6 nD he.1.symm (by have := he.1; omega) (fun k => .str (kwd k)) (fun H' s => .inl (.inl (s _ _ hpk2))) (fun i x k H5 H6 acc Qc hi ek O7 hy hQ => ?_) (fun H5 O7 => ?_)⟩
      · obtain ⟨rfl, hy⟩ := hy
        obtain ⟨tk, rfl, htk⟩ := he.2 i x k hy ek
        exact ⟨rfl, .ref tk, rfl, tk, _, _, _, rfl, rfl, O7.tup htk, atI_nat (j := 0) rfl, hQ _ O7⟩
      · refine ⟨p1, D, _, _, rfl, rfl, O7.l1, O7.l0, sz (by simp; omega), fun p2 n2 => ?_⟩
        have O8 := own_new (o := .lst ([V.str "row"] ++ ks.map fun k => V.str (kwd k))) O7.drop.drop n2
        refine ⟨" ", p2, [("row" : Str)] ++ ks.map kwd, rfl, rfl, .inl (.inl ?_), kwd_max hk4 hl4 "row" (by decide), q G4 _ a4 b4 c4 pk2 pp pl (.row ks) (s5.trans s4) O8.drop ((hS5.up s4).row hv5 hk4 hl4) (.inl ⟨_, rfl⟩) ⟨hk4, by omega⟩⟩
        rw [O8.l0, List.map_append, List.map_map]
        rfl
    · refine ⟨.ref ta, rfl, G5, _, ta, a3, b3, c3, 4, rfl, O3, by omega, by omega, fun H4 a5 b5 c5 way hw O5 => ?_⟩
      have hml5 : way < 2 ∨ more5.length ≤ 12 := .inr (by omega)
      refine ⟨nv way, rfl, rfl, _, rfl, ite2 (fun h0 => ?wA) (fun h0 => ?wB)⟩
      case' wA =>
        have hw2 : way < 2 := by
          have := of_decide_eq_true h0
          injection this with e
          omega
        have hk5 := hS5.k
        obtain ⟨pk0, uk, ek, hpk, hek⟩ := hk5
        cases ek
        have hukl := hek.1
        have hkn := hS5.kn
        refine ⟨.ref ds, rfl, ds, .ref pk, rfl, get_k O5.l1, sz (by show 0 ≤ _; omega), fun pe ne => ?_⟩
        have O5 := own_new (o := .lst []) O5 ne
        refine ⟨pk, pe, uk, rfl, rfl, .inl (.inl (O5.sub _ _ hpk)), .inl (.inl O5.l0), _, rfl, ite2 (fun h1 => ?wC) (fun h1 => ?wD)⟩
      case' wC =>
        have O5 := O5.drop
        refine ⟨.ref ds, rfl, ds, .ref pk, rfl, get_k O5.l1, pk, uk, rfl, .inl (.inl (O5.sub _ _ hpk)), fun pr nr => ?_⟩
        have O6 := own_new (o := .lst uk.reverse) O5 nr
        refine ⟨.ref ds, rfl, ds, .ref pk, rfl, get_k O6.l2, G5, _, .ref pk, kd, _, rfl, O6, hS5.k, hS5.ko, by omega, fun G7 H7 po s7 O7 => ?_⟩
        have O8 := O7.frz
        have s8 := s7.trans O7.gup
        have hpo : SqL K (upd G7 po (.lst ((ordK (keysOf ops [])).map nv))) po ((ordK (keysOf ops [])).map nv) := .inl (.inl upd_same)
        generalize upd G7 po (.lst ((ordK (keysOf ops [])).map nv)) = G8 at O8 s8 hpo
        have hI := ordK_is hS5.ko
        have hoL := hI.len
        refine ⟨po, rfl, ⟨_, O8.seq hpo⟩, fun D nD => lc_valS [some (.ref ta), some (.str kd.s), some (.ref ds), some (.ref pm5), none, some (nv way), none] rfl (ys := ordK (keysOf ops [])) walk_list O8 nD (by simp) (by rw [List.length_map]; omega) (fun i => uk.getD i .non) (fun H' s => s.seq hpo) (fun i x j Hx Hy acc Qc hi ej O9 hy hQ => ?wE) (fun Hx O9 => ?wF)⟩
      case' wE =>
        obtain ⟨rfl, hy⟩ := hy
        obtain ⟨j', ej', rfl⟩ := map_at hy
        obtain rfl : j' = j := Option.some.inj (ej'.symm.trans ej)
        have hj : j' < (keysOf ops []).length := hI.small (List.mem_of_getElem? ej)
        exact ⟨rfl, .ref ds, rfl, ds, .ref pk, rfl, get_k O9.l3, nv j', rfl, pk, _, _, _, rfl, rfl, .inl (.inl ((s8.trans O9.sub) _ _ hpk)), atI_nat (j := j') (getD_at (d := V.non) (show j' < uk.length by omega)), hQ _ O9⟩
      case' wF =>
        refine ⟨two_ok, fun pL nL => ?_⟩
        have O10 := own_new (o := .lst [.ref pr, .ref D]) O9 nL
        have e1 := O10.gup
        have O11 := O10.frz
        have e2 := O11.gup
        have O12 := O11.frz
        have e3 := O12.gup
        have O13 := O12.frz
        have hL : upd (upd (upd G8 pL (.lst [.ref pr, .ref D])) D (.lst ((ordK (keysOf ops [])).map fun i => uk.getD i .non))) pr (.lst uk.reverse) pL = some (.lst [.ref pr, .ref D]) := e3 _ _ (e2 _ _ upd_same)
        have hD : upd (upd (upd G8 pL (.lst [.ref pr, .ref D])) D (.lst ((ordK (keysOf ops [])).map fun i => uk.getD i .non))) pr (.lst uk.reverse) D = some (.lst ((ordK (keysOf ops [])).map fun i => uk.getD i .non)) := e3 _ _ upd_same
        have hR : upd (upd (upd G8 pL (.lst [.ref pr, .ref D])) D (.lst ((ordK (keysOf ops [])).map fun i => uk.getD i .non))) pr (.lst uk.reverse) pr = some (.lst uk.reverse) := upd_same
        have s9 := s8.trans (e1.trans (e2.trans e3))
        generalize upd (upd (upd G8 pL (.lst [.ref pr, .ref D])) D (.lst ((ordK (keysOf ops [])).map fun i => uk.getD i .non))) pr (.lst uk.reverse) = G5 at O13 hL hD hR s9
        have s5 := s5.trans s9
        have hS5 := hS5.up s9
        have hek := hek.mono fun _ _ h => LKV.up s9 h
        have hml5 : ∀ m : List Ky, way < 2 ∨ m.length ≤ 12 := fun _ => .inl hw2
        refine ⟨.ref ta, rfl, G5, _, ta, a5, b5, c5, 2, rfl, O13, by omega, by omega, fun H14 a5 b5 c5 zz hzz O5 => ?_⟩
        have hzz : zz = 0 ∨ zz = 1 := by omega
        rcases hzz with rfl | rfl
      case' inl =>
        refine ⟨pL, _, _, _, rfl, rfl, .inl (.inl (O5.sub _ _ hL)), atI_nat (j := 0) rfl, ?_⟩
        have hem5 := rev_any hek
        have hmo5 : ∀ k ∈ (keysOf ops []).reverse, KyOk kd k := fun k hk => hS5.ko k (List.mem_reverse.mp hk)
        have hml6 : (keysOf ops []).reverse.length ≤ 90 := by rw [List.length_reverse]; exact hkn
        generalize uk.reverse = um5 at hem5 hR
        generalize (keysOf ops []).reverse = more5 at hem5 hmo5 hml6
        have hml5 := hml5 more5
        have hpm5 := hR
        generalize pr = pm5 at hpm5
      case' inr =>
        refine ⟨pL, _, _, _, rfl, rfl, .inl (.inl (O5.sub _ _ hL)), atI_nat (j := 1) rfl, ?_⟩
        have hem5 := pick_any hek fun i hi => hI.small hi
        have hmo5 : ∀ k ∈ pick (keysOf ops []) (ordK (keysOf ops [])), KyOk kd k := pick_ok hS5.ko fun i hi => hI.small hi
        have hml6 : (pick (keysOf ops []) (ordK (keysOf ops []))).length ≤ 90 := by rw [List.length_map]; omega
        generalize ((ordK (keysOf ops [])).map fun i => uk.getD i .non) = um5 at hem5 hD
        generalize pick (keysOf ops []) (ordK (keysOf ops [])) = more5 at hem5 hmo5 hml6
        have hml5 := hml5 more5
        have hpm5 := hD
        generalize D = pm5 at hpm5
      case' wD =>
        have O5 := O5.drop
      case' wB =>
        refine iteF ?_
      all_goals
        have hul5 := hem5.1
        refine ⟨nv way, rfl, _, _, rfl, rfl, _, rfl, ite2 (fun h2 => ?_) (fun h2 => ?_)⟩
        rotate_left
        refine ⟨.ref pm5, rfl, sz (by show 0 ≤ _; omega), fun pe ne => ?_⟩
        have O5 := own_new (o := .lst []) O5 ne
        refine ⟨pm5, pe, um5, rfl, rfl, .inl (.inl (O5.sub _ _ hpm5)), .inl (.inl O5.l0), _, rfl, ite2 (fun h3 => ?_) (fun h3 => ?_)⟩
        have O5 := O5.drop
        rotate_left
        · have O5 := O5.drop
          have hpl := hS5.p
          obtain ⟨pp0, up, ep, hpp, hep⟩ := hpl
          cases ep
          have hupl := hep.1
          have hpn := hS5.pn
          have hm12 : more5.length ≤ 12 := hml5.resolve_left fun h => h2 (decide_eq_true (by omega))
          have hm1 : 1 ≤ more5.length := by
            cases more5 with
            | cons x r => exact Nat.succ_pos _
            | nil =>
              cases um5 with
              | nil => exact absurd rfl h3
              | cons u us => exact absurd hul5 (by simp)
          refine ⟨.ref ds, rfl, ds, .ref pp, rfl, get_p O5.l1, .ref pm5, rfl, pp, pm5, _, _, rfl, rfl, O5.sub _ _ hpp, O5.sub _ _ hpm5, sz (by omega), fun p1 n1 => ?_⟩
          have O6 := own_new (o := .lst (up ++ um5)) O5 n1
          refine ⟨.ref ds, rfl, ds, _, rfl, put_p O6.l2, ?_⟩
          have O7 := own_set (o' := stO pk p1 pl) O6 2 rfl
          have s7 := O7.gup
          have O8 := O7.frz
          have hp8 : LKL K (upd G5 p1 (.lst (up ++ um5))) (.ref p1) ((poursOf ops []).flatten ++ more5) := ⟨p1, _, rfl, upd_same, (hep.app hem5).mono fun _ _ h => LKV.up s7 h⟩
          generalize upd G5 p1 (.lst (up ++ um5)) = G8 at s7 O8 hp8
          have hS8 := hS5.up s7
          have hln := hS8.ln
          refine ⟨.ref ds, rfl, ds, .ref pl, rfl, get_l O8.l1, .ref pm5, rfl, pm5, um5, rfl, .inl (.inl (.inl (O8.sub _ _ (s7 _ _ hpm5)))), G8, _, pl, (lensOf (poursOf ops []) []).reverse, um5.length, rfl, O8, by rw [List.reverse_reverse]; exact hS8.l, by rw [List.length_reverse]; omega, fun G9 H9 p9 s9 O9 h9 => ?_⟩
          refine ⟨.ref ds, rfl, ds, _, rfl, put_l O9.l1, ?_⟩
          have O10 := own_set (o' := stO pk p1 p9) O9 1 rfl
          rw [hul5] at h9
          have hpm9 := s9 _ _ (s7 _ _ hpm5)
          have hem9 := hem5.mono fun _ _ h => LKV.up (s7.trans s9) h
          refine ⟨⟨_, rfl⟩, sz (by show 1 ≤ _; omega), fun p2 n2 => ?_⟩
          have O11 := own_new (o := .lst [.str "pour"]) O10 n2
          refine ⟨.ref pm5, rfl, pm5, rfl, ⟨_, .inl (.inl (O11.sub _ _ hpm9))⟩, fun D nD => lc_valS [some (.ref ta), some (.str kd.s), some (.ref ds), some (.ref pm5), none, some (nv way), none] rfl (ys := more5) walk_list O11 nD hul5.symm (by omega) (fun k => .str (kwd k)) (fun H' s => .inl (.inl (s _ _ hpm9))) (fun i x k Hx Hy acc Qc hi ek O12 hy hQ => ?_) (fun Hx O12 => ?_)⟩
          · obtain ⟨rfl, hy⟩ := hy
            obtain ⟨tk, rfl, htk⟩ := hem9.2 i x k hy ek
            exact ⟨rfl, .ref tk, rfl, tk, _, _, _, rfl, rfl, O12.tup htk, atI_nat (j := 0) rfl, hQ _ O12⟩
          · refine ⟨p2, D, _, _, rfl, rfl, O12.l1, O12.l0, sz (by simp; omega), fun p3 n3 => ?_⟩
            have O13 := own_new (o := .lst ([V.str "pour"] ++ more5.map fun k => V.str (kwd k))) O12.drop.drop n3
            refine ⟨" ", p3, [("pour" : Str)] ++ more5.map kwd, rfl, rfl, .inl (.inl ?_), kwd_max hmo5 hml6 "pour" (by decide), q G9 _ a5 b5 c5 pk p1 p9 (.pour more5) (s5.trans (s7.trans s9)) O13.drop ((hS8.up s9).pour (hp8.up s9) h9 hmo5 hm1 hm12) (.inr ⟨_, rfl⟩) ⟨hmo5, hm1, by omega⟩⟩
            rw [O13.l0, List.map_append, List.map_map]
            rfl
        refine iteT ?_
        all_goals
          refine ⟨.ref pm5, rfl, .ref ds, rfl, ds, _, rfl, put_k O5.l1, ?_⟩
          have O7 := own_set (o' := stO pm5 pp pl) O5 1 rfl
          refine ⟨⟨_, rfl⟩, sz (by show 1 ≤ _; omega), fun p2 n2 => ?_⟩
          have O11 := own_new (o := .lst [.str "row"]) O7 n2
          refine ⟨.ref pm5, rfl, pm5, rfl, ⟨_, .inl (.inl (O11.sub _ _ hpm5))⟩, fun D nD => lc_valS [some (.ref ta), some (.str kd.s), some (.ref ds), some (.ref pm5), none, some (nv way), none] rfl (ys := more5) walk_list O11 nD hul5.symm (by omega) (fun k => .str (kwd k)) (fun H' s => .inl (.inl (s _ _ hpm5))) (fun i x k Hx Hy acc Qc hi ek O12 hy hQ => ?_) (fun Hx O12 => ?_)⟩
          · obtain ⟨rfl, hy⟩ := hy
            obtain ⟨tk, rfl, htk⟩ := hem5.2 i x k hy ek
            exact ⟨rfl, .ref tk, rfl, tk, _, _, _, rfl, rfl, O12.tup htk, atI_nat (j := 0) rfl, hQ _ O12⟩
          · refine ⟨p2, D, _, _, rfl, rfl, O12.l1, O12.l0, sz (by simp; omega), fun p3 n3 => ?_⟩
            have O13 := own_new (o := .lst ([V.str "row"] ++ more5.map fun k => V.str (kwd k))) O12.drop.drop n3
            refine ⟨" ", p3, [("row" : Str)] ++ more5.map kwd, rfl, rfl, .inl (.inl ?_), kwd_max hmo5 hml6 "row" (by decide), q G5 _ a5 b5 c5 pm5 pp pl (.row more5) s5 O13.drop (hS5.row ⟨pm5, um5, rfl, hpm5, hem5⟩ hmo5 hml6) (.inl ⟨_, rfl⟩) ⟨hmo5, by omega⟩⟩
            rw [O13.l0, List.map_append, List.map_map]
            rfl
end
end Fs

set_option maxHeartbeats 4000000
/-! What the law asks. -/
namespace Fs
open PySem PySem.Spec PyProof.Rows L2
theorem ring_words {o : List Nat} (hp : o.Perm (List.range o.length)) (hn : o.length ≤ 200) : (((rgs (stp o) o.length).map nword).map (·.length)).sum + ((rgs (stp o) o.length).map nword).length * 3 ≤ 16777216 := by
  have hrl := rgs_len (f := stp o) o.length
  have hsum := len_sum (k := 5000) (ws := (rgs (stp o) o.length).map nword) fun z hz => by
    obtain ⟨r, hr, rfl⟩ := List.mem_map.mp hz
    have hr1 := rgs_ring (stp_small hp) (stp_inj hp) o.length (Nat.le_refl _) r hr
    have hr2 := rgs_small (stp_small hp) _ (Nat.le_refl _) r hr
    show (wds " " (r.map fun n : Nat => iw (n : Int))).length ≤ 5000
    rw [wds_some (by rw [List.length_map]; omega), str_len, join_cps]
    have := joinL_len (S := cps (" " : Str)) (k := 19) (ps := (r.map fun n : Nat => iw (n : Int)).map cps) fun p hp => by
      obtain ⟨z, hz, rfl⟩ := List.mem_map.mp hp
      obtain ⟨n, hn2, rfl⟩ := List.mem_map.mp hz
      rw [← str_len]
      exact (iw_int (n := (n : Int)) (small18 hr2 hn n hn2)).2
    rw [List.length_map, List.length_map, cps_sp, List.length_singleton] at this
    rw [cps_sp]
    omega
  rw [List.length_map] at hsum ⊢
  omega
theorem move_words {o : List Nat} (hp : o.Perm (List.range o.length)) (hn : o.length ≤ 200) : (((allMoves o).map mword).map (·.length)).sum + ((allMoves o).map mword).length * 3 ≤ 16777216 := by
  have hml : (allMoves o).length ≤ 200 * 201 := by
    refine Nat.le_trans (moves_len _ fun r hr => ?_) (Nat.mul_le_mul_right 201 (Nat.le_trans (rgs_len _) hn))
    have := rgs_ring (stp_small hp) (stp_inj hp) o.length (Nat.le_refl _) r hr
    omega
  have hsum := len_sum (k := 60) (ws := (allMoves o).map mword) fun z hz => by
    obtain ⟨m, hm, rfl⟩ := List.mem_map.mp hz
    have hmk := allMoves_ok hp m hm
    have hmk2 : MvOk 1000 m := by
      cases m with
      | take p => have : p < o.length := hmk; show p < 1000; omega
      | move s p => have : s < o.length ∧ p < o.length := hmk; show s < 1000 ∧ p < 1000; omega
      | lay p => have : p < o.length := hmk; show p < 1000; omega
    obtain ⟨_, m2, m3⟩ := mparts_len hmk2
    rw [str_len, join_cps]
    have := joinL_len (S := cps (" " : Str)) (k := 19) (ps := (mparts m).map cps) fun p hp => by
      obtain ⟨z, hz, rfl⟩ := List.mem_map.mp hp
      rw [← str_len]
      exact m3 z hz
    rw [List.length_map, cps_sp, List.length_singleton] at this
    rw [cps_sp]
    omega
  rw [List.length_map] at hsum ⊢
  omega
theorem stx_nv {ns : List Nat} (h : ∀ n ∈ ns, n < 1000) : Each Stx (ns.map nv) (ns.map fun n : Nat => iw (n : Int)) := by
  refine ⟨by simp, fun i v z a b => ?_⟩
  obtain ⟨n, en, rfl⟩ := map_at a
  rw [List.getElem?_map, en] at b
  obtain rfl := Option.some.inj b
  have hn := h n (List.mem_of_getElem? en)
  exact ⟨by have := iw18 hn; show (iw (n : Int)).length ≤ 100; omega, .inr ⟨(n : Int), rfl, by omega, rfl⟩⟩
theorem idx_facts {o : List Nat} (hp : o.Perm (List.range o.length)) {k : Nat} (hk : k < o.length) : o.idxOf k < o.length ∧ o[o.idxOf k]? = some k ∧ ∀ m, m < o.idxOf k → o[m]? ≠ some k := by
  have hm : k ∈ o := hp.mem_iff.mpr (List.mem_range.mpr hk)
  obtain ⟨i, e⟩ := List.getElem?_of_mem hm
  have hi := idx_at (perm_nodup hp) e
  refine ⟨List.idxOf_lt_length_of_mem hm, by rw [hi]; exact e, fun m hm2 e2 => ?_⟩
  have := idx_at (perm_nodup hp) e2
  omega
section
variable {P : Program} {w : World} {K : PySem.W.Frag} {mg : Str → Option Value} {base : Heap} {T : TL}
def sp__law_ask (K : PySem.W.Frag) (T : TL) : Sp := fun vs H Q _ => ∃ (G : Hp) (l : List (Addr × HO)) (ta a b c ds pk pp pl : Nat) (kd : Kd) (ops : List Op) (n : Nat), vs = [.ref ta, .ref ds] ∧ Own T G H ((ta, tpO a b c) :: (ds, stO pk pp pl) :: l) ∧ StV K kd G pk pp pl ops n ∧ n ≤ 20 ∧
  ∀ G' H' a' b' c' t op, Same G G' → Own T G' H' ((ta, tpO a' b' c') :: (ds, stO pk pp pl) :: l) → G' t = some (.tup [.str (rtxt (opw op)), .str (ans (keysOf ops []) (poursOf ops []) op)]) → ((∃ z, op = .sort z) ∨ ∃ z, op = .ask z) → OpOk kd op → Q (.ref t) H'
theorem sc__law_ask : FnScope ["_law_tape_here", "_law_state", "_law_keys_here", "_law_order_here", "_law_way", "_law_k", "_law_ring"] ["_law_tape_here", "_law_state"] (defScope s__law_ask) := ⟨rfl, rfl, rfl, by decide +kernel, rfl, by decide +kernel, by decide +kernel⟩
theorem cal__law_ask (t : Ctx K mg base T) : Cal P w K mg base 4 "_law_ask" ["_law_tape_here", "_law_state"] (sp__law_ask K T) := by
  refine cal_of t.d__law_ask t.g__law_ask sc__law_ask (fun _ _ _ _ _ _ us hl => match us, hl with | [_, _], _ => rfl) (fun vs H Q E h => ?_) (fun cdv A outer s H vs Q E hr h => ?_)
  · obtain ⟨G, l, ta, a, b, c, ds, pk, pp, pl, kd, ops, n, rfl, _⟩ := h
    rfl
  · obtain ⟨G, l, ta, a, b, c, ds, pk, pp, pl, kd, ops, n, rfl, O, hS, hn, q⟩ := h
    have hu := hu_of hr
    refine ⟨_, (pss_cons (ps_set (i := 2) sc__law_ask.nd rfl (.inl rfl) (pe_dget hu (pv 1) pe_str (fun _ _ => rfl)))
      (pss_cons (ps_set (i := 3) sc__law_ask.nd rfl (.inr rfl) (pe_cal (cal__law_order t) hr (pa_cons (pv 2) pa_nil)))
      (pss_cons (ps_set (i := 4) sc__law_ask.nd rfl (.inl rfl) (pe_cal (cal__law_draw t) hr (pa_cons (pv 0) (pa_cons pe_int pa_nil))))
      (pss_cons (ps_if (pt_cmpR op_eq (pv 4) pe_int (nomark _))
        (pss_one (ps_ret (pe_tup (pa_cons (pe_op op_add_str pe_str (pe_ix ixL (pe_lst (pa_cons pe_str (pa_cons pe_str (pa_cons pe_str pa_nil)))) (pe_cal (cal__law_draw t) hr (pa_cons (pv 0) (pa_cons pe_int pa_nil))) (fun _ _ => rfl))) (pa_cons (pe_cal (cal__law_sorted t) hr (pa_cons (pv 2) pa_nil)) pa_nil)))))
        pss_nil)
      (pss_cons (ps_if (pt_cmpR op_eq (pv 4) pe_int (nomark _))
        (pss_one (ps_ret (pe_tup (pa_cons pe_str (pa_cons (pe_cal (cal__law_words t) hr (pa_cons (pv 3) pa_nil)) pa_nil)))))
        pss_nil)
      (pss_cons (ps_if (pt_cmpR op_eq (pv 4) pe_int (nomark _))
        (pss_one (ps_ret (pe_tup (pa_cons pe_str (pa_cons (pe_cal (cal__law_words t) hr (pa_cons (pe_lc (own := [("_law_k", 5)]) (g := gName 5) (tt := tYes) (by rfl) sc__law_ask.nd (pi_range1 rfl t.range (pa_cons (pe_callB lenK (by rfl) t.len (by decide +kernel) (pa_cons (pv 3) pa_nil)) pa_nil)) (blkOk_by (own := [("_law_k", 5)]) (N := ["_law_tape_here", "_law_state", "_law_keys_here", "_law_order_here", "_law_way", "_law_k", "_law_ring"]) (sc := defScope s__law_ask) (by decide +kernel)) (fun _ _ _ _ _ => (pg_name (i := 5) sc__law_ask.nd rfl (.inl rfl))) (fun _ _ _ _ _ => pts_nil) (fun _ _ _ _ _ => (bmK PySem.F.plainAttrs_list PySem.F.slot_list_index PySem.F.type_list_index indexK (pv 3) (pa_cons (pv 5) pa_nil)))) pa_nil)) pa_nil)))))
        pss_nil)
      (pss_cons (ps_if (pt_cmpR op_eq (pv 4) pe_int (nomark _))
        (pss_one (ps_ret (pe_tup (pa_cons pe_str (pa_cons (pe_cal (cal__law_parted t) hr (pa_cons (pe_lc (own := [("_law_ring", 6)]) (g := gName 6) (tt := tYes) (by rfl) sc__law_ask.nd (piL (pe_cal (cal__law_rings t) hr (pa_cons (pv 3) pa_nil))) (blkOk_by (own := [("_law_ring", 6)]) (N := ["_law_tape_here", "_law_state", "_law_keys_here", "_law_order_here", "_law_way", "_law_k", "_law_ring"]) (sc := defScope s__law_ask) (by decide +kernel)) (fun _ _ _ _ _ => (pg_name (i := 6) sc__law_ask.nd rfl (.inl rfl))) (fun _ _ _ _ _ => pts_nil) (fun _ _ _ _ _ => (pe_cal (cal__law_words t) hr (pa_cons (pv 6) pa_nil)))) pa_nil)) pa_nil)))))
        pss_nil)
      (pss_cons (ps_if (pt_cmpR op_eq (pv 4) pe_int (nomark _))
        (pss_one (ps_ret (pe_tup (pa_cons pe_str (pa_cons (pe_cal (cal__law_parted t) hr (pa_cons (pe_cal (cal__law_walk t) hr (pa_cons (pv 3) pa_nil)) pa_nil)) pa_nil)))))
        pss_nil)
      (pss_one (ps_ret (pe_ix ixL (pe_lst (pa_cons (pe_tup (pa_cons pe_str (pa_cons (pe_cal (cal__law_sorted t) hr (pa_cons (pe_dget hu (pv 1) pe_str (fun _ _ => rfl)) pa_nil)) pa_nil))) (pa_cons (pe_tup (pa_cons pe_str (pa_cons (pe_cal (cal__law_words t) hr (pa_cons (pe_dget hu (pv 1) pe_str (fun _ _ => rfl)) pa_nil)) pa_nil))) pa_nil))) (pe_op op_sub (pv 4) pe_int) (fun _ _ => rfl)))))))))))), ?_⟩
    have fin : ∀ G' H' a' b' c' t op (wd z : Str), H' t = none → Same G G' → Own T G' H' ((ta, tpO a' b' c') :: (ds, stO pk pp pl) :: l) → wd = rtxt (opw op) → z = ans (keysOf ops []) (poursOf ops []) op → ((∃ z, op = .sort z) ∨ ∃ z, op = .ask z) → OpOk kd op → Q (.ref t) (upd H' t (.tup [.str wd, .str z])) := fun G' H' a' b' c' t op wd z nt s O' e1 e2 ha ho => by
      subst e1
      subst e2
      have O2 := own_new (o := .tup [.str (rtxt (opw op)), .str (ans (keysOf ops []) (poursOf ops []) op)]) O' nt
      exact q _ _ a' b' c' t op (s.trans O2.gup) O2.frz upd_same ha ho
    have hkn := hS.kn
    refine ⟨.ref ds, rfl, ds, .ref pk, rfl, get_k O.l1, ?_⟩
    refine ⟨.ref pk, rfl, G, _, .ref pk, kd, _, rfl, O, hS.k, hS.ko, by omega, fun G1 H1 po s1 O1 => ?_⟩
    have hI := ordK_is hS.ko
    have hol := hI.len
    have hperm : (ordK (keysOf ops [])).Perm (List.range (ordK (keysOf ops [])).length) := by rw [hol]; exact hI.1
    have hsm : ∀ i ∈ ordK (keysOf ops []), i < 1000 := fun i hi => by have := hI.small hi; omega
    have s2 := s1.trans O1.gup
    have O2 := O1.frz
    have hpo : GL (upd G1 po (.lst ((ordK (keysOf ops [])).map nv))) po (ordK (keysOf ops [])) := upd_same
    generalize upd G1 po (.lst ((ordK (keysOf ops [])).map nv)) = G2 at s2 O2 hpo
    have hS2 := hS.up s2
    generalize hoe : ordK (keysOf ops []) = o at hol hperm hsm hpo
    refine ⟨.ref ta, rfl, G2, _, ta, a, b, c, 7, rfl, O2, by omega, by omega, fun H3 a3 b3 c3 way hw O3 => ?_⟩
    refine ⟨nv way, rfl, rfl, _, rfl, ite2 (fun h0 => ?_) (fun h0 => ?_)⟩
    · refine ⟨sz (by show 3 ≤ _; omega), fun pw nw => ?_⟩
      have O4 := own_new (o := .lst [.str "last", .str "first", .str "runs"]) O3 nw
      refine ⟨.ref ta, rfl, G2, _, ta, a3, b3, c3, 3, rfl, O4.swap, by omega, by omega, fun H5 a5 b5 c5 x hx O5 => ?_⟩
      have hwx : ∃ z : Str, [V.str "last", V.str "first", V.str "runs"][x]? = some (.str z) ∧ Way z ∧ ("sort " : Str) ++ z = rtxt (opw (.sort z)) ∧ z.length ≤ 5 := by
        have : x = 0 ∨ x = 1 ∨ x = 2 := by omega
        rcases this with rfl | rfl | rfl
        · exact ⟨"last", rfl, .inl rfl, by decide, by decide⟩
        · exact ⟨"first", rfl, .inr (.inl rfl), by decide, by decide⟩
        · exact ⟨"runs", rfl, .inr (.inr rfl), by decide, by decide⟩
      obtain ⟨z, ez, hz, ew, hzl⟩ := hwx
      have l5 : ("sort " : Str).length = 5 := by decide
      refine ⟨pw, _, _, _, rfl, rfl, .inl (.inl O5.l1), atI_nat (j := x) ez, _, _, rfl, rfl, sz (by omega), ?_⟩
      refine ⟨.ref pk, rfl, G2, _, .ref pk, kd, _, rfl, O5.swap.drop, hS2.k, hS2.ko, by omega, fun G6 H6 s6 O6 => ⟨two_ok, fun t nt => ?_⟩⟩
      exact fin G6 _ a5 b5 c5 t (.sort z) _ _ nt (s2.trans s6) O6 ew rfl (.inl ⟨z, rfl⟩) hz
    refine ⟨nv way, rfl, rfl, _, rfl, ite2 (fun h1 => ?_) (fun h1 => ?_)⟩
    · refine ⟨.ref po, rfl, G2, _, po, _, _, rfl, O3, hpo.nl, stx_nv hsm, by rw [List.length_map]; omega, fun H5 O5 => ⟨two_ok, fun t nt => ?_⟩⟩
      exact fin G2 _ a3 b3 c3 t (.ask "order") _ _ nt s2 O5 (by decide) (by rw [← hoe]; rfl) (.inr ⟨_, rfl⟩) (.inl rfl)
    refine ⟨nv way, rfl, rfl, _, rfl, ite2 (fun h2 => ?_) (fun h2 => ?_)⟩
    · refine ⟨.ref po, rfl, po, _, rfl, .inl (O3.seq hpo.nl), _, rfl, by rw [List.length_map]; omega, by rw [List.length_map]; omega, fun D nD => lc_valS [some (.ref ta), some (.ref ds), some (.ref pk), some (.ref po), some (nv way), none, none] rfl (ys := List.range o.length) walk_r0 O3 nD (by simp) (by rw [List.length_map]; omega) (fun k => nv (o.idxOf k)) (fun _ _ => trivial) (fun i x k Hx Hy acc Qc hi ek O4 hy hQ => ?_) (fun Hx O4 => ?_)⟩
      · obtain ⟨rfl, rfl⟩ := hy
        rw [List.length_map] at hi
        have hi : i < o.length := by omega
        obtain rfl : i = k := by
          rw [List.getElem?_range hi] at ek
          exact Option.some.inj ek
        obtain ⟨k1, k2, k3⟩ := idx_facts hperm hi
        exact ⟨rfl, .ref po, rfl, .inl ⟨rfl, _, O4.seq hpo.nl⟩, nv i, rfl, po, _, nv i, o.idxOf i, nv i, rfl, rfl, O4.seq hpo.nl, rfl, all_flat _, by rw [List.getElem?_map, k2]; rfl, beq_self_eq_true (i : Int), fun m z' hm e => by
          obtain ⟨y, ey, rfl⟩ := map_at e
          exact beq_eq_false_iff_ne.mpr fun (h : (y : Int) = (i : Int)) => k3 m hm (by rw [ey]; congr 1; omega), hQ _ O4⟩
      · have ee : ((List.range o.length).map fun k => nv (o.idxOf k)) = ((List.range o.length).map fun k => o.idxOf k).map nv := by rw [List.map_map]; rfl
        rw [ee] at O4
        have s5 := O4.gup
        refine ⟨_, _, D, _, _, rfl, O4.frz, .inl (.inl upd_same), stx_nv fun n hn => ?_, by simp; omega, fun H5 O5 => ⟨two_ok, fun t nt => ?_⟩⟩
        · obtain ⟨k, hk, rfl⟩ := List.mem_map.mp hn
          have := (idx_facts hperm (List.mem_range.mp hk)).1
          omega
        · exact fin _ _ a3 b3 c3 t (.ask "back") _ _ nt (s2.trans s5) O5 (by decide) (by rw [← hoe]; rfl) (.inr ⟨_, rfl⟩) (.inr (.inl rfl))
    refine ⟨nv way, rfl, rfl, _, rfl, ite2 (fun h3 => ?_) (fun h3 => ?_)⟩
    · refine ⟨.ref po, rfl, G2, _, po, o, rfl, O3, hpo.nl, hperm, by omega, fun G4 H4 pf fv s4 O4 hF => ?_⟩
      have s5 := s4.trans O4.gup
      have hpf : SqL K (upd G4 pf (.lst fv)) pf fv := .inl (.inl upd_same)
      have hF5 : Each (LV (upd G4 pf (.lst fv))) fv (rgs (stp o) o.length) := hF.mono fun _ _ => LV.up O4.gup
      have O5 := O4.frz
      generalize upd G4 pf (.lst fv) = G5 at s5 O5 hpf hF5
      have hrl := rgs_len (f := stp o) o.length
      refine ⟨pf, rfl, ⟨_, O5.seq hpf⟩, fun D nD => lc_valS [some (.ref ta), some (.ref ds), some (.ref pk), some (.ref po), some (nv way), none, none] rfl (ys := rgs (stp o) o.length) walk_list O5 nD hF5.1.symm (by rw [hF5.1]; omega) (fun r => .str (nword r)) (fun H' s' => s'.seq hpf) (fun i v r Hx Hy acc Qc hi er O6 hy hQ => ?_) (fun Hx O6 => ?_)⟩
      · obtain ⟨rfl, hy⟩ := hy
        obtain ⟨ra, rfl, hra⟩ := hF5.2 i v r hy er
        have hm := List.mem_of_getElem? er
        have hr1 := rgs_ring (stp_small hperm) (stp_inj hperm) o.length (Nat.le_refl _) r hm
        have hr2 := rgs_small (stp_small hperm) _ (Nat.le_refl _) r hm
        exact ⟨rfl, .ref ra, rfl, G5, _, ra, _, _, rfl, O6, hra.nl, stx_nv fun n hn => by have := hr2 n hn; omega, by rw [List.length_map]; omega, fun H7 O7 => hQ _ O7⟩
      · refine ⟨_, _, D, (rgs (stp o) o.length).map nword, rfl, O6.frz, .inl (.inl (by rw [upd_same, List.map_map]; rfl)), ring_words hperm (by omega), fun H7 O7 => ⟨two_ok, fun t nt => ?_⟩⟩
        exact fin _ _ a3 b3 c3 t (.ask "rings") _ _ nt (s2.trans (s5.trans O6.gup)) O7 (by decide) (by rw [← hoe]; rfl) (.inr ⟨_, rfl⟩) (.inr (.inr (.inl rfl)))
    refine ⟨nv way, rfl, rfl, _, rfl, ite2 (fun h4 => ?_) (fun h4 => ?_)⟩
    · refine ⟨.ref po, rfl, G2, _, po, o, rfl, O3, hpo.nl, hperm, by omega, fun G4 H4 pf s4 O4 => ?_⟩
      refine ⟨_, _, pf, _, rfl, O4.frz, .inl (.inl upd_same), move_words hperm (by omega), fun H7 O7 => ⟨two_ok, fun t nt => ?_⟩⟩
      exact fin _ _ a3 b3 c3 t (.ask "walk") _ _ nt (s2.trans (s4.trans O4.gup)) O7 (by decide) (by rw [← hoe]; rfl) (.inr ⟨_, rfl⟩) (.inr (.inr (.inr (.inl rfl))))
    · have hpn := hS2.pn
      have hln := hS2.ln
      have hsum := lens_sum (poursOf ops []) []
      refine ⟨.ref ds, rfl, ds, .ref pp, rfl, get_p O3.l1, G2, _, .ref pp, kd, _, rfl, O3, hS2.p, hS2.po, by omega, fun G4 H4 s4 O4 => ⟨two_ok, fun t1 nt1 => ?_⟩⟩
      have O5 := own_new (o := .tup [.str "poured", .str (kwds (pick (poursOf ops []).flatten (ordK (poursOf ops []).flatten)))]) O4 nt1
      have s5 := s4.trans O5.gup
      have h5 : upd G4 t1 (.tup [.str "poured", .str (kwds (pick (poursOf ops []).flatten (ordK (poursOf ops []).flatten)))]) t1 = some (.tup [.str "poured", .str (kwds (pick (poursOf ops []).flatten (ordK (poursOf ops []).flatten)))]) := upd_same
      have O5 := O5.frz
      generalize upd G4 t1 (.tup [.str "poured", .str (kwds (pick (poursOf ops []).flatten (ordK (poursOf ops []).flatten)))]) = G5 at s5 O5 h5
      have hS5 := hS2.up s5
      refine ⟨.ref ds, rfl, ds, .ref pl, rfl, get_l O5.l1, G5, _, pl, _, _, rfl, O5, hS5.l.nl, stx_nv fun n hn => ?_, by rw [List.length_map]; omega, fun H6 O6 => ⟨two_ok, fun t2 nt2 => ?_⟩⟩
      · have := le_sum hn
        rw [List.sum_nil, Nat.zero_add] at hsum
        omega
      have O7 := own_new (o := .tup [.str "heaps", .str (nword (lensOf (poursOf ops []) []))]) O6 nt2
      have s7 := s5.trans O7.gup
      have h7 : upd G5 t2 (.tup [.str "heaps", .str (nword (lensOf (poursOf ops []) []))]) t2 = some (.tup [.str "heaps", .str (nword (lensOf (poursOf ops []) []))]) := upd_same
      have h5 := O7.gup _ _ h5
      have O7 := O7.frz
      generalize upd G5 t2 (.tup [.str "heaps", .str (nword (lensOf (poursOf ops []) []))]) = G7 at s7 O7 h5 h7
      refine ⟨two_ok, fun pw nw => ?_⟩
      have O8 := own_new (o := .lst [.ref t1, .ref t2]) O7 nw
      have hn0 : way ≠ 0 := fun e => h0 (decide_eq_true (by rw [e]; rfl))
      have hn1 : way ≠ 1 := fun e => h1 (decide_eq_true (by rw [e]; rfl))
      have hn2 : way ≠ 2 := fun e => h2 (decide_eq_true (by rw [e]; rfl))
      have hn3 : way ≠ 3 := fun e => h3 (decide_eq_true (by rw [e]; rfl))
      have hn4 : way ≠ 4 := fun e => h4 (decide_eq_true (by rw [e]; rfl))
      have hw56 : way = 5 ∨ way = 6 := by omega
      rcases hw56 with rfl | rfl
      · exact ⟨nv 5, rfl, _, _, rfl, rfl, pw, _, _, _, rfl, rfl, .inl (.inl O8.l0), atI_nat (j := 0) rfl, q G7 _ a3 b3 c3 t1 (.ask "poured") (s2.trans s7) O8.drop (by rw [h5, ans_poured]; rfl) (.inr ⟨_, rfl⟩) (.inr (.inr (.inr (.inr (.inl rfl)))))⟩
      · exact ⟨nv 6, rfl, _, _, rfl, rfl, pw, _, _, _, rfl, rfl, .inl (.inl O8.l0), atI_nat (j := 1) rfl, q G7 _ a3 b3 c3 t2 (.ask "heaps") (s2.trans s7) O8.drop (by rw [h7]; rfl) (.inr ⟨_, rfl⟩) (.inr (.inr (.inr (.inr (.inr rfl)))))⟩
end
end Fs

set_option maxHeartbeats 4000000
/-! The law. -/
namespace Fs
open PySem PySem.Spec PyProof.Rows L2
abbrev sv (xs : List Str) : List V := xs.map V.str
abbrev RW (kd : Kd) (b : Nat) (ops : List Op) : List Str := (lines kd b ops).map rtxt
theorem RW_len (kd : Kd) (b : Nat) (ops : List Op) : (RW kd b ops).length = ops.length + 1 := by simp
theorem RW_snoc (kd : Kd) (b : Nat) (ops : List Op) (op : Op) : RW kd b (ops ++ [op]) = RW kd b ops ++ [rtxt (opw op)] := by simp
theorem RW_take (kd : Kd) (b : Nat) (ops : List Op) (i : Nat) : (RW kd b ops).take (i + 1) = RW kd b (ops.take i) := by
  show (rtxt (kindW kd b) :: (ops.map opw).map rtxt).take (i + 1) = rtxt (kindW kd b) :: ((ops.take i).map opw).map rtxt
  rw [List.take_succ_cons, List.map_take, List.map_take]
theorem RW_bound {kd : Kd} {b : Nat} {ops : List Op} (hb : b ≤ 64) (h : ∀ op ∈ ops, OpOk kd op) (hn : ops.length ≤ 100) : ((RW kd b ops).map (·.length)).sum + (RW kd b ops).length * ("\n" : Str).length ≤ 16777216 := by
  have hs := len_sum (k := 20301) (ws := RW kd b ops) fun z hz => by
    obtain ⟨ws, hw, rfl⟩ := List.mem_map.mp hz
    exact (lines_ok hb h ws hw).len
  have l1 : ("\n" : Str).length = 1 := by decide
  rw [RW_len] at hs ⊢
  rw [l1]
  omega
theorem ans_rp {ops : List Op} {op : Op} (h : (∃ ks, op = .row ks) ∨ ∃ ks, op = .pour ks) : answers (ops ++ [op]) [] [] = answers ops [] [] := by
  rw [answers_app]
  rcases h with ⟨z, rfl⟩ | ⟨z, rfl⟩ <;> exact List.append_nil _
theorem ans_sa {ops : List Op} {op : Op} (h : (∃ z, op = .sort z) ∨ ∃ z, op = .ask z) : answers (ops ++ [op]) [] [] = answers ops [] [] ++ [ans (keysOf ops []) (poursOf ops []) op] := by
  rw [answers_app]
  rcases h with ⟨z, rfl⟩ | ⟨z, rfl⟩ <;> rfl
theorem kind_text (kd : Kd) (b : Nat) : rtxt (kindW kd b) = ("kind " : Str) ++ kd.s ++ (" " : Str) ++ iw (b : Int) := by
  show Txt.join " " ["kind", kd.s, iw (b : Int)] = _
  rw [join3]
  rfl
theorem kds_len (kd : Kd) : kd.s.length ≤ 6 := by cases kd <;> decide
theorem take_sum : ∀ (l : List Nat) (n : Nat), (l.take n).sum ≤ l.sum
  | [], _ => by simp
  | _ :: _, 0 => by simp
  | a :: r, n + 1 => by
    have := take_sum r n
    rw [List.take_succ_cons, List.sum_cons, List.sum_cons]
    omega
theorem half (n : Nat) : Int.fdiv (n : Int) 2 = ((n / 2 : Nat) : Int) := by
  rw [Int.fdiv_eq_ediv_of_nonneg _ (by decide)]
  rfl
theorem cut_n (vs : List V) (n : Nat) : cutV vs none (some (n : Int)) = vs.take n := by
  unfold cutV
  rw [HT.sIx_nat, HT.sIx_none]
  simp
theorem StV.mono {K : PySem.W.Frag} {kd : Kd} {G : Hp} {pk pp pl : Addr} {ops : List Op} {n m : Nat} (h : StV K kd G pk pp pl ops n) (hm : n ≤ m) : StV K kd G pk pp pl ops m :=
  ⟨h.k, h.ko, h.kn, h.p, h.po, by have := h.pn; omega, h.l, by have := h.ln; omega, h.ok, by have := h.sm; omega⟩
noncomputable abbrev lawL (kd : Kd) (b : Nat) (ds pk pp pl pr pd pm : Addr) (ops : List Op) : List (Addr × HO) := [(ds, stO pk pp pl), (pr, .lst (sv (RW kd b ops))), (pd, .lst (sv (answers ops [] []))), (pm, .lst ((mks ops).map nv))]
section
variable {K : PySem.W.Frag} {T : TL} {G H : Hp} {kd : Kd} {b : Nat} {ta ds pk pp pl pr pd pm : Addr} {tp : HO} {ops : List Op} {op : Op}
theorem lawL_rp (O : Own T G H [(ta, tp), (ds, stO pk pp pl), (pr, .lst (sv (RW kd b ops) ++ [V.str (rtxt (opw op))])), (pd, .lst (sv (answers ops [] []))), (pm, .lst ((mks ops).map nv ++ [V.int ((sv (answers ops [] [])).length : Int)]))]) (h : (∃ ks, op = .row ks) ∨ ∃ ks, op = .pour ks) :
    Own T G H ((ta, tp) :: lawL kd b ds pk pp pl pr pd pm (ops ++ [op])) := by
  have e3 : (mks ops).map nv ++ [V.int ((sv (answers ops [] [])).length : Int)] = (mks (ops ++ [op])).map nv := by
    rw [mks_snoc, List.map_append, ans_rp h, List.length_map]
    rfl
  have e1 : sv (RW kd b ops) ++ [V.str (rtxt (opw op))] = sv (RW kd b (ops ++ [op])) := by
    rw [RW_snoc]
    exact map_snoc V.str _ _
  rw [e3, e1, ← ans_rp h] at O
  exact O
theorem lawL_sa (O : Own T G H [(ta, tp), (ds, stO pk pp pl), (pr, .lst (sv (RW kd b ops) ++ [V.str (rtxt (opw op))])), (pd, .lst (sv (answers ops [] []) ++ [V.str (ans (keysOf ops []) (poursOf ops []) op)])), (pm, .lst ((mks ops).map nv ++ [V.int ((sv (answers ops [] []) ++ [V.str (ans (keysOf ops []) (poursOf ops []) op)]).length : Int)]))]) (h : (∃ z, op = .sort z) ∨ ∃ z, op = .ask z) :
    Own T G H ((ta, tp) :: lawL kd b ds pk pp pl pr pd pm (ops ++ [op])) := by
  have e2 : sv (answers ops [] []) ++ [V.str (ans (keysOf ops []) (poursOf ops []) op)] = sv (answers (ops ++ [op]) [] []) := by
    rw [ans_sa h]
    exact map_snoc V.str _ _
  have e3 : (mks ops).map nv ++ [V.int ((sv (answers (ops ++ [op]) [] [])).length : Int)] = (mks (ops ++ [op])).map nv := by
    rw [mks_snoc, List.map_append, List.length_map]
    rfl
  have e1 : sv (RW kd b ops) ++ [V.str (rtxt (opw op))] = sv (RW kd b (ops ++ [op])) := by
    rw [RW_snoc]
    exact map_snoc V.str _ _
  rw [e2, e3, e1] at O
  exact O
end
section
variable {P : Program} {w : World} {K : PySem.W.Frag} {mg : Str → Option Value} {base : Heap} {T : TL}
def sp_law (K : PySem.W.Frag) (T : TL) : Sp := fun vs H Q _ => ∃ (G : Hp) (sa : Addr) (ns : List Int), vs = [.ref sa] ∧ Own T G H [] ∧ SqL K G sa (ns.map V.int) ∧ ns.length ≤ 63 ∧ ∀ H', Q (.bl true) H'
theorem sc_law : FnScope ["_law_script", "_law_tape_here", "_law_kind", "_law_rows", "_law_due", "_law_marks", "_law_state", "_law_k", "_law_ask_here", "_law_word", "_law_answer", "_law_at"] ["_law_script"] (defScope s_law) := ⟨rfl, rfl, rfl, by decide +kernel, rfl, by decide +kernel, by decide +kernel⟩
theorem fnok_law (t : Ctx K mg base T) {fd : FuncData} (F : FnP K "law" "law" s_law (He.ga K "law") fd) : FnOk P w K mg base CX0 10 (He.ga K "law") fd ["_law_script"] (sp_law K T) := by
  refine fn_ok F sc_law (fun vs H Q E h => ?_) (fun cdv A outer s H vs Q E hr h => ?_)
  · obtain ⟨G, sa, ns, rfl, _⟩ := h
    rfl
  · obtain ⟨G, sa, ns, rfl, O, hsa, hn, q⟩ := h
    refine ⟨_, (pss_cons (ps_set (i := 1) sc_law.nd rfl (.inl rfl) (pe_cal (cal__law_tape t) hr (pa_cons (pv 0) (pa_cons pe_int pa_nil))))
      (pss_cons (ps_set (i := 2) sc_law.nd rfl (.inl rfl) (pe_ix ixL (pe_lst (pa_cons pe_str (pa_cons pe_str (pa_cons pe_str pa_nil)))) (pe_cal (cal__law_draw t) hr (pa_cons (pv 1) (pa_cons pe_int pa_nil))) (fun _ _ => rfl)))
      (pss_cons (ps_par3 (i := 3) (j := 4) (l := 5) (by rfl) sc_law.nd rfl rfl rfl (by decide) (by decide) (by decide) rfl rfl rfl (pa_cons (pe_lst (pa_cons (pe_op op_add_str (pe_op op_add_str (pe_op op_add_str pe_str (pv 2)) pe_str) (pe_callTy call_str_int (by rfl) t.str (by decide +kernel) (pa_cons (pe_cal (cal__law_base t) hr (pa_cons (pv 1) pa_nil)) pa_nil))) pa_nil)) (pa_cons (pe_lst pa_nil) (pa_cons (pe_lst (pa_cons pe_int pa_nil)) pa_nil))) (by rfl))
      (pss_cons (ps_set (i := 6) sc_law.nd rfl (.inl rfl) (pe_disp (pps_cons pe_str (pe_lst pa_nil) (pps_cons pe_str (pe_lst pa_nil) (pps_cons pe_str (pe_lst pa_nil) pps_nil))) (by rfl) (by rfl) (fun z => by cases z) (by decide)))
      (pss_cons (ps_for PassesOwn.never rfl (pi_range2 (by rfl) t.range (pa_cons pe_int (pa_cons (pe_op op_add pe_int (pe_callB (call_min2 rfl) (by rfl) t.min_ (by decide +kernel) (pa_cons pe_int (pa_cons (pe_callB lenK (by rfl) t.len (by decide +kernel) (pa_cons (pv 0) pa_nil)) pa_nil)))) pa_nil))) (pg_name (i := 7) sc_law.nd rfl (.inl rfl))
        (pss_cons (ps_set (i := 1) sc_law.nd rfl (.inl rfl) (pe_cal (cal__law_tape t) hr (pa_cons (pv 0) (pa_cons (pv 7) pa_nil))))
        (pss_cons (ps_if (pt_cmpR op_gt (pe_cal (cal__law_draw t) hr (pa_cons (pv 1) (pa_cons pe_int pa_nil))) pe_int (nomark _))
          (pss_cons (ps_expr (bmK PySem.F.plainAttrs_list PySem.F.slot_list_append PySem.F.type_list_append mt_append (pv 3) (pa_cons (pe_cal (cal__law_deed t) hr (pa_cons (pv 1) (pa_cons (pv 2) (pa_cons (pv 6) pa_nil)))) pa_nil)))
          (pss_one (ps_expr (bmK PySem.F.plainAttrs_list PySem.F.slot_list_append PySem.F.type_list_append mt_append (pv 5) (pa_cons (pe_callB lenK (by rfl) t.len (by decide +kernel) (pa_cons (pv 4) pa_nil)) pa_nil)))))
          pss_nil)
        (pss_one (ps_for PassesOwn.never rfl (pi_range1 rfl t.range (pa_cons (pe_op op_add pe_int (pe_cal (cal__law_draw t) hr (pa_cons (pv 1) (pa_cons pe_int pa_nil)))) pa_nil)) (pg_name (i := 8) sc_law.nd rfl (.inl rfl))
          (pss_cons (ps_asg (pe_cal (cal__law_ask t) hr (pa_cons (pv 1) (pa_cons (pv 6) pa_nil))) (pg_tup (by rfl) (pgs_cons (pg_name (i := 9) sc_law.nd rfl (.inl rfl)) (pgs_cons (pg_name (i := 10) sc_law.nd rfl (.inl rfl)) pgs_nil))))
          (pss_cons (ps_expr (bmK PySem.F.plainAttrs_list PySem.F.slot_list_append PySem.F.type_list_append mt_append (pv 3) (pa_cons (pv 9) pa_nil)))
          (pss_cons (ps_expr (bmK PySem.F.plainAttrs_list PySem.F.slot_list_append PySem.F.type_list_append mt_append (pv 4) (pa_cons (pv 10) pa_nil)))
          (pss_one (ps_expr (bmK PySem.F.plainAttrs_list PySem.F.slot_list_append PySem.F.type_list_append mt_append (pv 5) (pa_cons (pe_callB lenK (by rfl) t.len (by decide +kernel) (pa_cons (pv 4) pa_nil)) pa_nil))))))))))))
      (pss_cons (ps_if (pt_not (pt_val (pe_cal (cal__law_are_answers t) hr (pa_cons (pe_cal (cal_run t) hr (pa_cons (joinK pe_str (pv 3)) pa_nil)) (pa_cons (pv 4) pa_nil)))))
        (pss_one (ps_ret pe_bl))
        pss_nil)
      (pss_cons (ps_for PassesOwn.never rfl (piL (pe_callB (sortSetK rfl) (by rfl) t.sorted (by decide +kernel) (pa_cons (pe_callTy (setIK rfl) (by rfl) t.set_ (by decide +kernel) (pa_cons (pe_lst (pa_cons pe_int (pa_cons (pe_op op_fdivN (pe_callB lenK (by rfl) t.len (by decide +kernel) (pa_cons (pv 3) pa_nil)) pe_int) (pa_cons (pe_op op_sub (pe_callB lenK (by rfl) t.len (by decide +kernel) (pa_cons (pv 3) pa_nil)) pe_int) pa_nil)))) pa_nil)) pa_nil))) (pg_name (i := 11) sc_law.nd rfl (.inl rfl))
        (pss_one (ps_if (pt_not (pt_val (pe_cal (cal__law_are_answers t) hr (pa_cons (pe_cal (cal_run t) hr (pa_cons (joinK pe_str (pe_slice slL (pv 3) po_none (po_some (pe_op op_add (pv 11) pe_int)))) pa_nil)) (pa_cons (pe_slice slL (pv 4) po_none (po_some (pe_ix ixL (pv 5) (pv 11) (fun _ _ => rfl)))) pa_nil)))))
          (pss_one (ps_ret pe_bl))
          pss_nil)))
      (pss_one (ps_ret pe_bl))))))))), ?_⟩
    refine ⟨.ref sa, rfl, G, _, sa, ns, 0, rfl, O, hsa, fun H1 ta x y z O1 => ?_⟩
    refine ⟨sz (by show 3 ≤ _; omega), fun pw nw => ?_⟩
    have O2 := own_new (o := .lst [.str "number", .str "part", .str "text"]) O1 nw
    refine ⟨.ref ta, rfl, G, _, ta, x, y, z, 3, rfl, O2.swap, by omega, by omega, fun H3 a3 b3 c3 kx hk O3 => ?_⟩
    have hkd : ∃ kd : Kd, [V.str "number", V.str "part", V.str "text"][kx]? = some (.str kd.s) := by
      have : kx = 0 ∨ kx = 1 ∨ kx = 2 := by omega
      rcases this with rfl | rfl | rfl
      · exact ⟨.N, rfl⟩
      · exact ⟨.P, rfl⟩
      · exact ⟨.X, rfl⟩
    obtain ⟨kd, ek⟩ := hkd
    refine ⟨pw, _, _, _, rfl, rfl, .inl (.inl O3.l1), atI_nat (j := kx) ek, ?_⟩
    have O3 := O3.swap.drop
    have hkl := kds_len kd
    have l5 : ("kind " : Str).length = 5 := by decide
    have l1 : (" " : Str).length = 1 := by decide
    refine ⟨.str kd.s, rfl, _, _, rfl, rfl, sz (by omega), _, _, rfl, rfl, sz (by rw [len_app]; omega), .ref ta, rfl, G, _, ta, a3, b3, c3, rfl, O3, fun H4 a4 b4 c4 b hb hb2 O4 => ?_⟩
    have hbl := iw18 (n := b) (by omega)
    refine ⟨_, rfl, log_small (by show b < _; omega), _, _, rfl, rfl, sz (by show (_ : Str).length + (iw (b : Int)).length ≤ _; rw [len_app, len_app]; omega), sz (by show 1 ≤ _; omega), fun pr npr => ?_⟩
    have O5 := own_new (o := .lst [.str (("kind " : Str) ++ kd.s ++ (" " : Str) ++ iw (b : Int))]) O4 npr
    refine ⟨sz (by show 0 ≤ _; omega), fun pd npd => ?_⟩
    have O6 := own_new (o := .lst []) O5 npd
    refine ⟨sz (by show 1 ≤ _; omega), fun pm npm => ?_⟩
    have O7 := own_new (o := .lst [.int 0]) O6 npm
    refine ⟨_, _, _, rfl, fun ds nds => ?_⟩
    have O8 := own_new (o := .dK []) O7 nds
    refine ⟨sz (by show 0 ≤ _; omega), fun pk npk => ?_⟩
    have O9 := own_new (o := .lst []) O8 npk
    refine ⟨sz (by show 0 ≤ _; omega), fun pp npp => ?_⟩
    have O10 := own_new (o := .lst []) O9 npp
    refine ⟨sz (by show 0 ≤ _; omega), fun pl npl => ?_⟩
    have O11 := own_new (o := .lst []) O10 npl
    refine ⟨O11.l3, [(.inr "keys", .ref pk), (.inr "poured", .ref pp), (.inr "lengths", .ref pl)], rfl, (by show 3 ≤ 15; decide), ?_⟩
    have O12 := own_set (o' := stO pk pp pl) O11 3 rfl
    have f1 := O12.gup
    have O13 := O12.frz
    have f2 := O13.gup
    have O14 := O13.frz
    have f3 := O14.gup
    have O15 := O14.frz
    have hpl0 := f3 _ _ (f2 _ _ (upd_same (H := G) (a := pl) (o := .lst [])))
    have hpp0 := f3 _ _ (upd_same (H := upd G pl (.lst [])) (a := pp) (o := .lst []))
    have hpk0 := upd_same (H := upd (upd G pl (.lst [])) pp (.lst [])) (a := pk) (o := .lst [])
    have s0 := f1.trans (f2.trans f3)
    generalize upd (upd (upd G pl (.lst [])) pp (.lst [])) pk (.lst []) = G0 at O15 hpl0 hpp0 hpk0 s0
    have O16 := ((O15.perm (((List.reverse_perm [(pm, HO.lst [.int 0]), (pd, HO.lst []), (pr, HO.lst [.str (("kind " : Str) ++ kd.s ++ (" " : Str) ++ iw (b : Int))])]).symm.append_right [(ta, tpO a4 b4 c4)]).cons (ds, stO pk pp pl))).perm (List.perm_append_comm (l₁ := [(ds, stO pk pp pl), (pr, HO.lst [.str (("kind " : Str) ++ kd.s ++ (" " : Str) ++ iw (b : Int))]), (pd, HO.lst []), (pm, HO.lst [.int 0])]) (l₂ := [(ta, tpO a4 b4 c4)]))).drop
    have hS0 : StV K kd G0 pk pp pl [] 0 := ⟨⟨pk, [], rfl, hpk0, Each.nil⟩, fun k h => (List.not_mem_nil h).elim, Nat.zero_le _, ⟨pp, [], rfl, hpp0, Each.nil⟩, fun k h => (List.not_mem_nil h).elim, Nat.zero_le _, hpl0, Nat.zero_le _, fun k h => (List.not_mem_nil h).elim, Nat.zero_le _⟩
    have el : [(ds, stO pk pp pl), (pr, HO.lst [.str (("kind " : Str) ++ kd.s ++ (" " : Str) ++ iw (b : Int))]), (pd, HO.lst []), (pm, HO.lst [.int 0])] = lawL kd b ds pk pp pl pr pd pm [] := by
      rw [← kind_text]
      rfl
    have O17 := el ▸ (show Own T G0 _ [(ds, stO pk pp pl), (pr, HO.lst [.str (("kind " : Str) ++ kd.s ++ (" " : Str) ++ iw (b : Int))]), (pd, HO.lst []), (pm, HO.lst [.int 0])] from O16)
    have hsa0 := s0.seq hsa
    obtain ⟨m, hm, hm2⟩ : ∃ m : Nat, (2 : Int) + (if ((ns.map V.int).length : Int) < 13 then ((ns.map V.int).length : Int) else 13) = 1 + (m : Int) ∧ m ≤ 14 := by
      rw [List.length_map]
      split
      · exact ⟨1 + ns.length, by omega, by omega⟩
      · exact ⟨14, by omega, by omega⟩
    refine ⟨.ref sa, rfl, sa, _, rfl, .inl (O17.seq hsa0), _, _, rfl, _, _, rfl, rfl, 1, 1 + (m : Int), congrArg (fun z => [V.int 1, V.int z]) hm, ⟨by omega, by omega, by omega, by omega⟩, ?_⟩
    rw [show (1 + (m : Int) - 1).toNat = m by omega]
    refine for_range (lo := 1) (n := m) (fun i σ H' => ∃ y1 y7 y8 y9 y10, σ = [some (.ref sa), y1, some (.str kd.s), some (.ref pr), some (.ref pd), some (.ref pm), some (.ref ds), y7, y8, y9, y10, none] ∧ ∃ G1 pk pp pl ops, Same G0 G1 ∧ Own T G1 H' (lawL kd b ds pk pp pl pr pd pm ops) ∧ StV K kd G1 pk pp pl ops i ∧ ops.length ≤ 3 * i) ⟨some (.ref ta), none, none, none, none, rfl, G0, pk, pp, pl, [], Same.refl _, O17, hS0, Nat.zero_le _⟩ (fun i σ H' hi ⟨y1, y7, y8, y9, y10, e, G1, pk, pp, pl, ops, s1, O1, hS, hol⟩ => ?_) (fun σ H' ⟨y1, y7, y8, y9, y10, e, G1, pk, pp, pl, ops, s1, O1, hS, hol⟩ => ?_)
    · subst e
      show gName 7 (nv (1 + i)) _ _ _
      have hsa1 := s1.seq hsa0
      refine ⟨.ref sa, rfl, nv (1 + i), rfl, G1, _, sa, ns, 1 + i, rfl, O1, hsa1, fun H3 ta x y z O3 => ?_⟩
      refine ⟨.ref ta, rfl, G1, _, ta, x, y, z, 4, rfl, O3, by omega, by omega, fun H4 a5 b5 c5 d hd O5 => ?_⟩
      refine ⟨_, _, rfl, rfl, _, rfl, ite2 (fun h => ?_) (fun h => ?_)⟩
      refine ⟨.ref pr, rfl, .inl ⟨rfl, _, .inl (.inl O5.l2)⟩, .ref ta, rfl, .str kd.s, rfl, .ref ds, rfl, G1, _, ta, a5, b5, c5, ds, pk, pp, pl, kd, ops, i, rfl, O5, hS, by omega, fun G5 H5 a5 b5 c5 pk pp pl op s5 O5 hS5 hrp hop => ⟨_, _, _, rfl, rfl, O5.l2, sz' (by rw [List.length_map, RW_len]; omega), ?_⟩⟩
      have O6 := own_set (o' := .lst (sv (RW kd b ops) ++ [V.str (rtxt (opw op))])) O5 2 rfl
      refine ⟨.ref pm, rfl, .inl ⟨rfl, _, .inl (.inl O6.l4)⟩, .ref pd, rfl, pd, _, rfl, .inl (.inl (.inl O6.l3)), _, _, _, rfl, rfl, O6.l4, sz' (by rw [List.length_map, mks_len]; omega), ?_⟩
      have O8 := lawL_rp (own_set (o' := .lst ((mks ops).map nv ++ [V.int ((sv (answers ops [] [])).length : Int)])) O6 4 rfl) hrp
      have s5 := s1.trans s5
      have hl5 : (ops ++ [op]).length ≤ 3 * i + 1 := by
        rw [List.length_append]
        show ops.length + 1 ≤ _
        omega
      generalize ops ++ [op] = ops5 at O8 hS5 hl5
      rotate_left
      have O8 := O5
      have s5 := s1
      have hS5 := hS.mono (Nat.le_succ i)
      have hl5 : ops.length ≤ 3 * i + 1 := by omega
      obtain ⟨G5, e5⟩ : ∃ G5, G5 = G1 := ⟨_, rfl⟩
      subst e5
      obtain ⟨ops5, e5⟩ : ∃ ops5, ops5 = ops := ⟨_, rfl⟩
      subst e5
      all_goals
        refine ⟨.ref ta, rfl, G5, _, ta, a5, b5, c5, 2, rfl, O8, by omega, by omega, fun H8 a8 b8 c8 e he O9 => ⟨_, _, rfl, rfl, ((1 + e : Nat) : Int), congrArg (fun z => [V.int z]) (by omega), by omega, by omega, ?_⟩⟩
        refine for_range (lo := 0) (n := 1 + e) (fun j σ H' => ∃ y8 y9 y10, σ = [some (.ref sa), some (.ref ta), some (.str kd.s), some (.ref pr), some (.ref pd), some (.ref pm), some (.ref ds), some (nv (1 + i)), y8, y9, y10, none] ∧ ∃ G6 a6 b6 c6 ops6, Same G0 G6 ∧ Own T G6 H' ((ta, tpO a6 b6 c6) :: lawL kd b ds pk pp pl pr pd pm ops6) ∧ StV K kd G6 pk pp pl ops6 (i + 1) ∧ ops6.length ≤ 3 * i + 1 + j) ⟨_, _, _, rfl, G5, a8, b8, c8, ops5, s5, O9, hS5, hl5⟩ (fun j σ H' hj ⟨y8, y9, y10, eσ, G6, a6, b6, c6, ops6, s6, O6, hS6, hl6⟩ => ?_) (fun σ H' ⟨y8, y9, y10, eσ, G6, a6, b6, c6, ops6, s6, O6, hS6, hl6⟩ => ?_)
        · subst eσ
          refine ⟨.ref ta, rfl, .ref ds, rfl, G6, _, ta, a6, b6, c6, ds, pk, pp, pl, kd, ops6, i + 1, rfl, O6, hS6, by omega, fun G7 H7 a7 b7 c7 tp op s7 O7 htp hsa hop => ?_⟩
          have hal := ops_len ops6 [] []
          refine ⟨tp, _, rfl, .inl (.inl (O7.sub _ _ htp)), rfl, _, _, rfl, _, _, rfl, rfl, ?_⟩
          refine ⟨.ref pr, rfl, .inl ⟨rfl, _, .inl (.inl O7.l2)⟩, .str (rtxt (opw op)), rfl, _, _, _, rfl, rfl, O7.l2, sz' (by rw [List.length_map, RW_len]; omega), ?_⟩
          have O8 := own_set (o' := .lst (sv (RW kd b ops6) ++ [V.str (rtxt (opw op))])) O7 2 rfl
          refine ⟨.ref pd, rfl, .inl ⟨rfl, _, .inl (.inl O8.l3)⟩, .str (ans (keysOf ops6 []) (poursOf ops6 []) op), rfl, _, _, _, rfl, rfl, O8.l3, sz' (by rw [List.length_map]; omega), ?_⟩
          have O9 := own_set (o' := .lst (sv (answers ops6 [] []) ++ [V.str (ans (keysOf ops6 []) (poursOf ops6 []) op)])) O8 3 rfl
          refine ⟨.ref pm, rfl, .inl ⟨rfl, _, .inl (.inl O9.l4)⟩, .ref pd, rfl, pd, _, rfl, .inl (.inl (.inl O9.l3)), _, _, _, rfl, rfl, O9.l4, sz' (by rw [List.length_map, mks_len]; omega), ?_⟩
          refine ⟨_, _, _, rfl, G7, a7, b7, c7, ops6 ++ [op], s6.trans s7, lawL_sa (own_set (o' := .lst ((mks ops6).map nv ++ [V.int ((sv (answers ops6 [] []) ++ [V.str (ans (keysOf ops6 []) (poursOf ops6 []) op)]).length : Int)])) O9 4 rfl) hsa, (hS6.up s7).ask hsa hop, ?_⟩
          rw [List.length_append]
          show ops6.length + 1 ≤ _
          omega
        · subst eσ
          exact ⟨_, _, _, _, _, rfl, G6, pk, pp, pl, ops6, s6, O6.drop, hS6, by omega⟩
    · subst e
      have hok := hS.ok
      have hsm := hS.sm
      have hal := ops_len ops [] []
      have O1 := O1.drop
      have f1 := O1.gup
      have O2 := O1.frz
      have f2 := O2.gup
      have O3 := O2.frz
      have f3 := O3.gup
      have O4 := O3.frz
      have hpr := f3 _ _ (f2 _ _ (upd_same (H := G1) (a := pr) (o := .lst (sv (RW kd b ops)))))
      have hpd := f3 _ _ (upd_same (H := upd G1 pr (.lst (sv (RW kd b ops)))) (a := pd) (o := .lst (sv (answers ops [] []))))
      have hpm := upd_same (H := upd (upd G1 pr (.lst (sv (RW kd b ops)))) pd (.lst (sv (answers ops [] [])))) (a := pm) (o := .lst ((mks ops).map nv))
      generalize upd (upd (upd G1 pr (.lst (sv (RW kd b ops)))) pd (.lst (sv (answers ops [] [])))) pm (.lst ((mks ops).map nv)) = G2 at O4 hpr hpd hpm
      refine ⟨⟨_, rfl⟩, .ref pr, rfl, "\n", pr, RW kd b ops, rfl, rfl, .inl (.inl (O4.sub _ _ hpr)), RW_bound hb2 hok (by omega), ?_⟩
      refine ⟨G2, _, kd, b, ops, rfl, O4, hb, hb2, hok, by omega, by omega, fun G5 H5 p s5 O5 => ?_⟩
      refine ⟨.ref pd, rfl, _, _, p, pd, answers ops [] [], rfl, O5.frz, upd_same, .inl (.inl (O5.sub _ _ (s5 _ _ hpd))), by omega, fun H6 O6 => ?_⟩
      refine ⟨true, rfl, iteF ?_⟩
      have s6 := s5.trans O5.gup
      have hpr := s6 _ _ hpr
      have hpd := s6 _ _ hpd
      have hpm := s6 _ _ hpm
      generalize upd G5 p (.lst (sv (answers ops [] []))) = G6 at O6 hpr hpd hpm
      refine ⟨.ref pr, rfl, pr, _, rfl, .inl (.inl (.inl (O6.sub _ _ hpr))), _, _, rfl, rfl, ⟨by decide, by decide⟩, .ref pr, rfl, pr, _, rfl, .inl (.inl (.inl (O6.sub _ _ hpr))), _, _, rfl, rfl, three_ok, fun p0 n0 => ?_⟩
      have O7 := own_new (o := .lst [.int 0, .int (Int.fdiv ((sv (RW kd b ops)).length : Int) 2), .int (((sv (RW kd b ops)).length : Int) - 1)]) O6 n0
      refine ⟨p0, [0, Int.fdiv ((sv (RW kd b ops)).length : Int) 2, ((sv (RW kd b ops)).length : Int) - 1], rfl, .inl (.inl O7.l0), (by show 3 ≤ 1000; decide), fun sp c nsp hc _ => ?_⟩
      have O8 := own_new (o := SetO w sp (fun j => decide (j ∈ [0, Int.fdiv ((sv (RW kd b ops)).length : Int) 2, ((sv (RW kd b ops)).length : Int) - 1])) c) O7 nsp
      have hc3 : c ≤ 3 := hc
      refine ⟨sp, _, c, rfl, O8.l0, by omega, fun xs px hpw hmem hxl npx => ?_⟩
      have O9 := own_new (o := .lst (xs.map V.int)) O8 npx
      have s9 := O9.gup
      have O10 := O9.frz.drop.drop
      have hpx : SqL K (upd G6 px (.lst (xs.map V.int))) px (xs.map V.int) := .inl (.inl upd_same)
      have hpr := s9 _ _ hpr
      have hpd := s9 _ _ hpd
      have hpm := s9 _ _ hpm
      generalize upd G6 px (.lst (xs.map V.int)) = G7 at O10 hpx hpr hpd hpm
      have hRl : (sv (RW kd b ops)).length = ops.length + 1 := by rw [List.length_map, RW_len]
      have hat : ∀ x ∈ xs, ∃ k : Nat, x = (k : Int) ∧ k ≤ ops.length := fun x hx => by
        have hx := of_decide_eq_true ((hmem x).mp hx)
        rw [hRl, half] at hx
        simp only [List.mem_cons, List.not_mem_nil, or_false] at hx
        rcases hx with rfl | rfl | rfl
        · exact ⟨0, rfl, by omega⟩
        · exact ⟨_, rfl, by omega⟩
        · exact ⟨ops.length, by omega, Nat.le_refl _⟩
      refine ⟨px, rfl, ⟨_, O10.seq hpx⟩, for_it walk_list (fun i σ H' => ∃ y11, σ = [some (.ref sa), y1, some (.str kd.s), some (.ref pr), some (.ref pd), some (.ref pm), some (.ref ds), y7, y8, y9, y10, y11] ∧ ∃ G', Same G7 G' ∧ Own T G' H' []) ⟨none, rfl, G7, Same.refl _, O10⟩ (fun i σ H' _ ⟨_, _, G', s, O'⟩ => O'.seq (s.seq hpx)) (fun i v σ Hx Hy hi ⟨y11, e, G', s, O'⟩ hy => ?_) (fun σ Hx ⟨y11, e, G', s, O'⟩ => ?_)⟩
      · subst e
        obtain ⟨rfl, hy⟩ := hy
        obtain ⟨zi, ez, rfl⟩ := map_at hy
        obtain ⟨k, rfl, hk⟩ := hat zi (List.mem_of_getElem? ez)
        have hpr := s _ _ hpr
        have hpd := s _ _ hpd
        have hpm := s _ _ hpm
        have ec : cutV (sv (RW kd b ops)) none (some ((k : Int) + 1)) = sv (RW kd b (ops.take k)) := by
          show cutV _ none (some ((k + 1 : Nat) : Int)) = _
          rw [cut_n, ← List.map_take, RW_take]
        have ec2 : cutV (sv (answers ops [] [])) none (some (((answers (ops.take k) [] []).length : Nat) : Int)) = sv (answers (ops.take k) [] []) := by
          rw [cut_n, ← List.map_take, answers_take]
        have htl : (ops.take k).length ≤ ops.length := by rw [List.length_take]; omega
        have hokt : ∀ op ∈ ops.take k, OpOk kd op := fun op h => hok op (List.mem_of_mem_take h)
        have hsmt : ((ops.take k).map pn).sum ≤ (ops.map pn).sum := by
          rw [List.map_take]
          exact take_sum _ _
        have halt := ops_len (ops.take k) [] []
        refine ⟨⟨_, rfl⟩, .ref pr, rfl, nv k, rfl, _, _, rfl, rfl, _, rfl, pr, _, rfl, .inl (.inl (O'.sub _ _ hpr)), fun ps nps => ?_⟩
        rw [ec]
        have O11 := own_new (o := .lst (sv (RW kd b (ops.take k)))) O' nps
        refine ⟨"\n", ps, RW kd b (ops.take k), rfl, rfl, .inl (.inl O11.l0), RW_bound hb2 hokt (by omega), ?_⟩
        refine ⟨G', _, kd, b, ops.take k, rfl, O11.drop, hb, hb2, hokt, by omega, by omega, fun G12 H12 p12 s12 O12 => ?_⟩
        refine ⟨.ref pd, rfl, .ref pm, rfl, nv k, rfl, pm, _, _, _, rfl, rfl, .inl (.inl (O12.sub _ _ (s12 _ _ hpm))), atI_map (mks_at hk), _, rfl, pd, _, rfl, .inl (.inl (O12.sub _ _ (s12 _ _ hpd))), fun pq npq => ?_⟩
        rw [ec2]
        have O13 := own_new (o := .lst (sv (answers (ops.take k) [] []))) O12 npq
        refine ⟨_, _, p12, pq, answers (ops.take k) [] [], rfl, O13.swap.frz, upd_same, .inl (.inl O13.l0), by omega, fun H14 O14 => ?_⟩
        refine ⟨true, rfl, iteF ?_⟩
        exact ⟨_, rfl, _, s.trans (s12.trans O12.gup), O14.drop⟩
      · subst e
        exact q _
end
end Fs

set_option maxHeartbeats 4000000
/-! What the head says of the program's top. -/
namespace Fs
open PySem PySem.Spec PyProof.Rows L2
theorem top_of {K : PySem.W.Frag} {h : Heap} {mg : Str → Option Value} {w : World} (X : K.In h) (G : h.Ns mainGlobals mg) (c : He.SaysX fal fnl [] tfl exl w h K) : Top K mg ∧ (He.cT K pT).2 ≠ (He.cT K pR).2 := by
  have m := c.more
  unfold exl at m
  obtain ⟨z_two, m⟩ := Bool.and_eq_true_iff.mp m
  obtain ⟨z_q_KINDS, m⟩ := Bool.and_eq_true_iff.mp m
  obtain ⟨z_q_WAYS, m⟩ := Bool.and_eq_true_iff.mp m
  have z_q_ASKS := m
  have D := c.t.d
  have F := fun (i : Nat) (f : He.Fa) (h : fal[i]? = some f) => D.fact i (f := f) h
  refine ⟨{
    len := He.free_ok X G (F 0 (.free "len") rfl),
    range := He.free_ok X G (F 1 (.free "range") rfl),
    list := He.free_ok X G (F 2 (.free "list") rfl),
    tuple := He.free_ok X G (F 3 (.free "tuple") rfl),
    zip := He.free_ok X G (F 4 (.free "zip") rfl),
    enumerate := He.free_ok X G (F 5 (.free "enumerate") rfl),
    reversed := He.free_ok X G (F 6 (.free "reversed") rfl),
    sorted := He.free_ok X G (F 7 (.free "sorted") rfl),
    sum := He.free_ok X G (F 8 (.free "sum") rfl),
    all := He.free_ok X G (F 9 (.free "all") rfl),
    int := He.free_ok X G (F 10 (.free "int") rfl),
    bool := He.free_ok X G (F 11 (.free "bool") rfl),
    str := He.free_ok X G (F 12 (.free "str") rfl),
    abs := He.free_ok X G (F 13 (.free "abs") rfl),
    isinstance := He.free_ok X G (F 14 (.free "isinstance") rfl),
    set_ := He.free_ok X G (F 15 (.free "set") rfl),
    max_ := He.free_ok X G (F 16 (.free "max") rfl),
    min_ := He.free_ok X G (F 17 (.free "min") rfl),
    c_NUMBER := He.str_ok X G (F 18 (.str "NUMBER" "number") rfl),
    c_PART := He.str_ok X G (F 19 (.str "PART" "part") rfl),
    c_LETTERS := He.str_ok X G (F 20 (.str "LETTERS" "abcdefghijklmnopqrstuvwxyz") rfl),
    c_TEXT_BASE := He.int_ok X G (F 21 (.int "TEXT_BASE" 27) rfl),
    c_LAST := He.str_ok X G (F 22 (.str "LAST" "last") rfl),
    c_FIRST := He.str_ok X G (F 23 (.str "FIRST" "first") rfl),
    c_RUNS := He.str_ok X G (F 24 (.str "RUNS" "runs") rfl),
    c_FIGURES := He.str_ok X G (F 25 (.str "FIGURES" "0123456789") rfl),
    c_KINDS := He.glo_ok X G (F 26 (.glo "KINDS") rfl),
    q_KINDS := fun H => He.tupB_ok z_q_KINDS H,
    c_WAYS := He.glo_ok X G (F 27 (.glo "WAYS") rfl),
    q_WAYS := fun H => He.tupB_ok z_q_WAYS H,
    c_ASKS := He.glo_ok X G (F 28 (.glo "ASKS") rfl),
    q_ASKS := fun H => He.tupB_ok z_q_ASKS H,
    c_MOST_FIGURES := He.int_ok X G (F 29 (.int "MOST_FIGURES" 18) rfl),
    c_MOST_BOTTOM := He.int_ok X G (F 30 (.int "MOST_BOTTOM" 60) rfl),
    c_MOST_LETTERS := He.int_ok X G (F 31 (.int "MOST_LETTERS" 20) rfl),
    c_MOST_KEYS := He.int_ok X G (F 32 (.int "MOST_KEYS" 200) rfl),
    c_LEAST_BASE := He.int_ok X G (F 33 (.int "LEAST_BASE" 2) rfl),
    c_MOST_BASE := He.int_ok X G (F 34 (.int "MOST_BASE" 64) rfl),
    c_NONE := He.str_ok X G (F 35 (.str "NONE" "-") rfl),
    g_Pour := He.glo_ok X G (F 36 (.glo "Pour") rfl),
    k_Pour := He.cls_ok (F 37 (.cls "Pour") rfl),
    mk_Pour := He.mkr_ok (F 38 (.mkr "Pour") rfl),
    n_Pour_came := He.noat_ok (F 39 (.noat "Pour" "came") rfl),
    n_Pour_own_heaps := He.noat_ok (F 40 (.noat "Pour" "own_heaps") rfl),
    n_Pour_moved := He.noat_ok (F 41 (.noat "Pour" "moved") rfl),
    g_RingWalk := He.glo_ok X G (F 42 (.glo "RingWalk") rfl),
    k_RingWalk := He.cls_ok (F 43 (.cls "RingWalk") rfl),
    mk_RingWalk := He.mkr_ok (F 44 (.mkr "RingWalk") rfl),
    n_RingWalk_own_things := He.noat_ok (F 45 (.noat "RingWalk" "own_things") rfl),
    n_RingWalk_held := He.noat_ok (F 46 (.noat "RingWalk" "held") rfl),
    n_RingWalk_waiting := He.noat_ok (F 47 (.noat "RingWalk" "waiting") rfl),
    n_RingWalk_done := He.noat_ok (F 48 (.noat "RingWalk" "done") rfl),
    g_Reading := He.glo_ok X G (F 49 (.glo "Reading") rfl),
    k_Reading := He.cls_ok (F 50 (.cls "Reading") rfl),
    mk_Reading := He.mkr_ok (F 51 (.mkr "Reading") rfl),
    n_Reading_kind := He.noat_ok (F 52 (.noat "Reading" "kind") rfl),
    n_Reading_base := He.noat_ok (F 53 (.noat "Reading" "base") rfl),
    n_Reading_taken := He.noat_ok (F 54 (.noat "Reading" "taken") rfl),
    n_Reading_poured := He.noat_ok (F 55 (.noat "Reading" "poured") rfl),
    g_Desk := He.glo_ok X G (F 56 (.glo "Desk") rfl),
    k_Desk := He.cls_ok (F 57 (.cls "Desk") rfl),
    mk_Desk := He.mkr_ok (F 58 (.mkr "Desk") rfl),
    n_Desk_kind := He.noat_ok (F 59 (.noat "Desk" "kind") rfl),
    n_Desk_base := He.noat_ok (F 60 (.noat "Desk" "base") rfl),
    n_Desk_own_keys := He.noat_ok (F 61 (.noat "Desk" "own_keys") rfl),
    n_Desk_own_pours := He.noat_ok (F 62 (.noat "Desk" "own_pours") rfl),
    d_counts := D.def_ 0 (d := dd_counts) rfl,
    g_counts := He.glo_ok X G (F 63 (.glo "counts") rfl),
    d_begins := D.def_ 1 (d := dd_begins) rfl,
    g_begins := He.glo_ok X G (F 64 (.glo "begins") rfl),
    d_is_place := D.def_ 2 (d := dd_is_place) rfl,
    g_is_place := He.glo_ok X G (F 65 (.glo "is_place") rfl),
    d_is_order := D.def_ 3 (d := dd_is_order) rfl,
    g_is_order := He.glo_ok X G (F 66 (.glo "is_order") rfl),
    d_look_order := D.def_ 4 (d := dd_look_order) rfl,
    g_look_order := He.glo_ok X G (F 67 (.glo "look_order") rfl),
    d_look_as_many := D.def_ 5 (d := dd_look_as_many) rfl,
    g_look_as_many := He.glo_ok X G (F 68 (.glo "look_as_many") rfl),
    d_put := D.def_ 6 (d := dd_put) rfl,
    g_put := He.glo_ok X G (F 69 (.glo "put") rfl),
    d_back_of := D.def_ 7 (d := dd_back_of) rfl,
    g_back_of := He.glo_ok X G (F 70 (.glo "back_of") rfl),
    d_ring_from := D.def_ 8 (d := dd_ring_from) rfl,
    g_ring_from := He.glo_ok X G (F 71 (.glo "ring_from") rfl),
    d_rings := D.def_ 9 (d := dd_rings) rfl,
    g_rings := He.glo_ok X G (F 72 (.glo "rings") rfl),
    d_told_order := D.def_ 10 (d := dd_told_order) rfl,
    g_told_order := He.glo_ok X G (F 73 (.glo "told_order") rfl),
    d_Pour___init__ := D.def_ 11 (d := dd_Pour___init__) rfl,
    d_Pour_rising := D.def_ 12 (d := dd_Pour_rising) rfl,
    m_Pour_rising := He.meth_ok (F 74 (.meth "Pour" "rising") rfl),
    d_Pour_pour := D.def_ 13 (d := dd_Pour_pour) rfl,
    m_Pour_pour := He.meth_ok (F 75 (.meth "Pour" "pour") rfl),
    d_Pour_heaps := D.def_ 14 (d := dd_Pour_heaps) rfl,
    m_Pour_heaps := He.meth_ok (F 76 (.meth "Pour" "heaps") rfl),
    d_Pour_order := D.def_ 15 (d := dd_Pour_order) rfl,
    m_Pour_order := He.meth_ok (F 77 (.meth "Pour" "order") rfl),
    d_moves_of_ringwalk := D.def_ 16 (d := dd_moves_of_ringwalk) rfl,
    g_moves_of_ringwalk := He.glo_ok X G (F 78 (.glo "moves_of_ringwalk") rfl),
    d_RingWalk___init__ := D.def_ 17 (d := dd_RingWalk___init__) rfl,
    d_RingWalk_lift := D.def_ 18 (d := dd_RingWalk_lift) rfl,
    m_RingWalk_lift := He.meth_ok (F 79 (.meth "RingWalk" "lift") rfl),
    d_RingWalk_step := D.def_ 19 (d := dd_RingWalk_step) rfl,
    m_RingWalk_step := He.meth_ok (F 80 (.meth "RingWalk" "step") rfl),
    d_many_figures := D.def_ 20 (d := dd_many_figures) rfl,
    g_many_figures := He.glo_ok X G (F 81 (.glo "many_figures") rfl),
    d_figures := D.def_ 21 (d := dd_figures) rfl,
    g_figures := He.glo_ok X G (F 82 (.glo "figures") rfl),
    d_shared_factor := D.def_ 22 (d := dd_shared_factor) rfl,
    g_shared_factor := He.glo_ok X G (F 83 (.glo "shared_factor") rfl),
    d_least_bottom := D.def_ 23 (d := dd_least_bottom) rfl,
    g_least_bottom := He.glo_ok X G (F 84 (.glo "least_bottom") rfl),
    d_numbers_spelled := D.def_ 24 (d := dd_numbers_spelled) rfl,
    g_numbers_spelled := He.glo_ok X G (F 85 (.glo "numbers_spelled") rfl),
    d_letter_at := D.def_ 25 (d := dd_letter_at) rfl,
    g_letter_at := He.glo_ok X G (F 86 (.glo "letter_at") rfl),
    d_texts_spelled := D.def_ 26 (d := dd_texts_spelled) rfl,
    g_texts_spelled := He.glo_ok X G (F 87 (.glo "texts_spelled") rfl),
    d_spelled := D.def_ 27 (d := dd_spelled) rfl,
    g_spelled := He.glo_ok X G (F 88 (.glo "spelled") rfl),
    d_width_of := D.def_ 28 (d := dd_width_of) rfl,
    g_width_of := He.glo_ok X G (F 89 (.glo "width_of") rfl),
    d_put_by := D.def_ 29 (d := dd_put_by) rfl,
    g_put_by := He.glo_ok X G (F 90 (.glo "put_by") rfl),
    d_from_last := D.def_ 30 (d := dd_from_last) rfl,
    g_from_last := He.glo_ok X G (F 91 (.glo "from_last") rfl),
    d_parts_of := D.def_ 31 (d := dd_parts_of) rfl,
    g_parts_of := He.glo_ok X G (F 92 (.glo "parts_of") rfl),
    d_from_first := D.def_ 32 (d := dd_from_first) rfl,
    g_from_first := He.glo_ok X G (F 93 (.glo "from_first") rfl),
    d_runs := D.def_ 33 (d := dd_runs) rfl,
    g_runs := He.glo_ok X G (F 94 (.glo "runs") rfl),
    d_merged := D.def_ 34 (d := dd_merged) rfl,
    g_merged := He.glo_ok X G (F 95 (.glo "merged") rfl),
    d_round_of := D.def_ 35 (d := dd_round_of) rfl,
    g_round_of := He.glo_ok X G (F 96 (.glo "round_of") rfl),
    d_ahead_of_runs := D.def_ 36 (d := dd_ahead_of_runs) rfl,
    g_ahead_of_runs := He.glo_ok X G (F 97 (.glo "ahead_of_runs") rfl),
    d_joined := D.def_ 37 (d := dd_joined) rfl,
    g_joined := He.glo_ok X G (F 98 (.glo "joined") rfl),
    d_by_runs := D.def_ 38 (d := dd_by_runs) rfl,
    g_by_runs := He.glo_ok X G (F 99 (.glo "by_runs") rfl),
    d_done_by := D.def_ 39 (d := dd_done_by) rfl,
    g_done_by := He.glo_ok X G (F 100 (.glo "done_by") rfl),
    d_own_keys := D.def_ 40 (d := dd_own_keys) rfl,
    g_own_keys := He.glo_ok X G (F 101 (.glo "own_keys") rfl),
    d_ordered := D.def_ 41 (d := dd_ordered) rfl,
    g_ordered := He.glo_ok X G (F 102 (.glo "ordered") rfl),
    d_are_figures := D.def_ 42 (d := dd_are_figures) rfl,
    g_are_figures := He.glo_ok X G (F 103 (.glo "are_figures") rfl),
    d_number_read := D.def_ 43 (d := dd_number_read) rfl,
    g_number_read := He.glo_ok X G (F 104 (.glo "number_read") rfl),
    d_is_between := D.def_ 44 (d := dd_is_between) rfl,
    g_is_between := He.glo_ok X G (F 105 (.glo "is_between") rfl),
    d_part_read := D.def_ 45 (d := dd_part_read) rfl,
    g_part_read := He.glo_ok X G (F 106 (.glo "part_read") rfl),
    d_text_read := D.def_ 46 (d := dd_text_read) rfl,
    g_text_read := He.glo_ok X G (F 107 (.glo "text_read") rfl),
    d_key_read := D.def_ 47 (d := dd_key_read) rfl,
    g_key_read := He.glo_ok X G (F 108 (.glo "key_read") rfl),
    d_key_word := D.def_ 48 (d := dd_key_word) rfl,
    g_key_word := He.glo_ok X G (F 109 (.glo "key_word") rfl),
    d_numbers_word := D.def_ 49 (d := dd_numbers_word) rfl,
    g_numbers_word := He.glo_ok X G (F 110 (.glo "numbers_word") rfl),
    d_several := D.def_ 50 (d := dd_several) rfl,
    g_several := He.glo_ok X G (F 111 (.glo "several") rfl),
    d_Reading___init__ := D.def_ 51 (d := dd_Reading___init__) rfl,
    d_Reading_take := D.def_ 52 (d := dd_Reading_take) rfl,
    m_Reading_take := He.meth_ok (F 112 (.meth "Reading" "take") rfl),
    d_Reading_take_kind := D.def_ 53 (d := dd_Reading_take_kind) rfl,
    m_Reading_take_kind := He.meth_ok (F 113 (.meth "Reading" "take_kind") rfl),
    d_Reading_take_keys := D.def_ 54 (d := dd_Reading_take_keys) rfl,
    m_Reading_take_keys := He.meth_ok (F 114 (.meth "Reading" "take_keys") rfl),
    d_Reading_take_ask := D.def_ 55 (d := dd_Reading_take_ask) rfl,
    m_Reading_take_ask := He.meth_ok (F 115 (.meth "Reading" "take_ask") rfl),
    d_reading_of := D.def_ 56 (d := dd_reading_of) rfl,
    g_reading_of := He.glo_ok X G (F 116 (.glo "reading_of") rfl),
    d_move_word := D.def_ 57 (d := dd_move_word) rfl,
    g_move_word := He.glo_ok X G (F 117 (.glo "move_word") rfl),
    d_all_moves := D.def_ 58 (d := dd_all_moves) rfl,
    g_all_moves := He.glo_ok X G (F 118 (.glo "all_moves") rfl),
    d_Desk___init__ := D.def_ 59 (d := dd_Desk___init__) rfl,
    d_Desk_written := D.def_ 60 (d := dd_Desk_written) rfl,
    m_Desk_written := He.meth_ok (F 119 (.meth "Desk" "written") rfl),
    d_Desk_own_order := D.def_ 61 (d := dd_Desk_own_order) rfl,
    m_Desk_own_order := He.meth_ok (F 120 (.meth "Desk" "own_order") rfl),
    d_Desk_pour_so_far := D.def_ 62 (d := dd_Desk_pour_so_far) rfl,
    m_Desk_pour_so_far := He.meth_ok (F 121 (.meth "Desk" "pour_so_far") rfl),
    d_Desk_poured_answer := D.def_ 63 (d := dd_Desk_poured_answer) rfl,
    m_Desk_poured_answer := He.meth_ok (F 122 (.meth "Desk" "poured_answer") rfl),
    d_Desk_order_answer := D.def_ 64 (d := dd_Desk_order_answer) rfl,
    m_Desk_order_answer := He.meth_ok (F 123 (.meth "Desk" "order_answer") rfl),
    d_Desk_answer := D.def_ 65 (d := dd_Desk_answer) rfl,
    m_Desk_answer := He.meth_ok (F 124 (.meth "Desk" "answer") rfl),
    d_run := D.def_ 66 (d := dd_run) rfl,
    g_run := He.glo_ok X G (F 125 (.glo "run") rfl),
    d__law_tape := D.def_ 67 (d := dd__law_tape) rfl,
    g__law_tape := He.glo_ok X G (F 126 (.glo "_law_tape") rfl),
    d__law_draw := D.def_ 68 (d := dd__law_draw) rfl,
    g__law_draw := He.glo_ok X G (F 127 (.glo "_law_draw") rfl),
    d__law_many := D.def_ 69 (d := dd__law_many) rfl,
    g__law_many := He.glo_ok X G (F 128 (.glo "_law_many") rfl),
    d__law_base := D.def_ 70 (d := dd__law_base) rfl,
    g__law_base := He.glo_ok X G (F 129 (.glo "_law_base") rfl),
    d__law_key := D.def_ 71 (d := dd__law_key) rfl,
    g__law_key := He.glo_ok X G (F 130 (.glo "_law_key") rfl),
    d__law_part := D.def_ 72 (d := dd__law_part) rfl,
    g__law_part := He.glo_ok X G (F 131 (.glo "_law_part") rfl),
    d__law_keys := D.def_ 73 (d := dd__law_keys) rfl,
    g__law_keys := He.glo_ok X G (F 132 (.glo "_law_keys") rfl),
    d__law_order := D.def_ 74 (d := dd__law_order) rfl,
    g__law_order := He.glo_ok X G (F 133 (.glo "_law_order") rfl),
    d__law_words := D.def_ 75 (d := dd__law_words) rfl,
    g__law_words := He.glo_ok X G (F 134 (.glo "_law_words") rfl),
    d__law_sorted := D.def_ 76 (d := dd__law_sorted) rfl,
    g__law_sorted := He.glo_ok X G (F 135 (.glo "_law_sorted") rfl),
    d__law_rings := D.def_ 77 (d := dd__law_rings) rfl,
    g__law_rings := He.glo_ok X G (F 136 (.glo "_law_rings") rfl),
    d__law_walk := D.def_ 78 (d := dd__law_walk) rfl,
    g__law_walk := He.glo_ok X G (F 137 (.glo "_law_walk") rfl),
    d__law_parted := D.def_ 79 (d := dd__law_parted) rfl,
    g__law_parted := He.glo_ok X G (F 138 (.glo "_law_parted") rfl),
    d__law_heaped := D.def_ 80 (d := dd__law_heaped) rfl,
    g__law_heaped := He.glo_ok X G (F 139 (.glo "_law_heaped") rfl),
    d__law_are_answers := D.def_ 81 (d := dd__law_are_answers) rfl,
    g__law_are_answers := He.glo_ok X G (F 140 (.glo "_law_are_answers") rfl),
    d__law_great := D.def_ 82 (d := dd__law_great) rfl,
    g__law_great := He.glo_ok X G (F 141 (.glo "_law_great") rfl),
    d__law_deed := D.def_ 83 (d := dd__law_deed) rfl,
    g__law_deed := He.glo_ok X G (F 142 (.glo "_law_deed") rfl),
    d__law_ask := D.def_ 84 (d := dd__law_ask) rfl,
    g__law_ask := He.glo_ok X G (F 143 (.glo "_law_ask") rfl),
    d_law := D.def_ 85 (d := dd_law) rfl,
    g_law := He.glo_ok X G (F 144 (.glo "law") rfl)
  }, of_decide_eq_true z_two⟩
end Fs

set_option maxHeartbeats 0
/-! The end. -/
namespace Fs
open PySem PySem.Spec PyProof.Rows L2
/-- the heap that the law is called in: the tables apart, all of it stands still -/
theorem own_start {K : PySem.W.Frag} {H : Hp} (h1 : H (He.cT K pT).2 = some (.tbl #[])) (h2 : H (He.cT K pR).2 = some (.tbl #[])) {a : Addr} {ns : List Int} (hS : SqL K H a (ns.map V.int)) :
    ∃ G : Hp, Own (tl K) G H [] ∧ SqL K G a (ns.map V.int) := by
  refine ⟨fun b => if b = (He.cT K pT).2 ∨ b = (He.cT K pR).2 then none else H b, ⟨fun b x e => ?_, fun e he => (List.not_mem_nil he).elim, fun e he => (List.not_mem_nil he).elim, List.nodup_nil, fun p hp => ?_⟩, ?_⟩
  · have e : (if b = (He.cT K pT).2 ∨ b = (He.cT K pR).2 then none else H b) = some x := e
    split at e
    · cases e
    · exact e
  · have key : p.1 = (He.cT K pT).2 ∨ p.1 = (He.cT K pR).2 := by
      rcases List.mem_cons.mp hp with rfl | hp
      · exact .inl rfl
      · rw [List.mem_singleton.mp hp]
        exact .inr rfl
    refine ⟨if_pos key, List.not_mem_nil, #[], ?_, trivial, fun pos cv h => ?_⟩
    · rcases key with e | e <;> rw [e] <;> assumption
    · cases h
  · rcases hS with hS | hS
    · have na : ¬ (a = (He.cT K pT).2 ∨ a = (He.cT K pR).2) := fun h => by
        have ht : H a = some (.tbl #[]) := by rcases h with e | e <;> rw [e] <;> assumption
        rcases hS with e | ⟨o, e⟩ <;> (rw [ht] at e; cases e)
      rcases hS with e | ⟨o, e⟩
      · exact .inl (.inl ((if_neg na).trans e))
      · exact .inl (.inr ⟨o, (if_neg na).trans e⟩)
    · exact .inr hS
theorem law_at {w : World} {mg : Str → Option Value} {fa : Addr} {h : Heap} {K : PySem.W.Frag} (X : K.In h) (N : h.Ns mainGlobals mg) (hm : mg "law" = some (.ref fa)) (c : He.SaysX fal fnl [] tfl exl w h K) :
    LamX.LawAtS PySem.Challenge.rw_figuresort_k67_whole_desk_walked w K L2.CX0 10 63 "_law_script" mg fa h := by
  obtain ⟨t, two⟩ := top_of X N c
  obtain ⟨fd, F⟩ := t.d_law
  obtain rfl : fa = He.ga K "law" := by
    have e := hm.symm.trans t.g_law
    injection e with e
    injection e
  have b := FunD.bindsA (ps := ["_law_script"]) F fun _ _ _ _ _ _ us hl => match us, hl with | [_], _ => rfl
  have mem : ∀ p ∈ [He.cT K pT, He.cT K pR], ∃ d ∈ tfl, p = He.cT K d := fun p hp => by
    rcases List.mem_cons.mp hp with rfl | hp
    · exact ⟨pT, List.mem_cons_self .., rfl⟩
    · exact ⟨pR, List.mem_cons_of_mem _ (List.mem_cons_self ..), List.mem_singleton.mp hp⟩
  refine ⟨fd, [He.cT K pT, He.cT K pR], sp_law K (tl K), fun p hp => ?_, fun p hp => ?_, fun p hp => ?_, fun s u => b s [u] rfl, fun H a ns hl _ hT hS => ?_, fun base hK hN hT => ?_⟩
  · obtain ⟨d, hd, rfl⟩ := mem p hp
    exact c.empty d hd
  · obtain ⟨d, hd, rfl⟩ := mem p hp
    exact c.out d hd
  · obtain ⟨d, hd, rfl⟩ := mem p hp
    exact PySem.W.codeHd_of_K X (c.hd d hd)
  · obtain ⟨G, O, hs⟩ := own_start (hT _ (List.mem_cons_self ..)) (hT _ (List.mem_cons_of_mem _ (List.mem_cons_self ..))) hS
    exact ⟨G, a, ns, rfl, O, hs, hl, fun _ => rfl⟩
  · exact fnok_law { t with hT := rfl, tabT := hT _ (List.mem_cons_self ..), tabR := hT _ (List.mem_cons_of_mem _ (List.mem_cons_self ..)), two := two } F
end Fs
open PySem PySem.W PySem.Calls PyProof.Rows in
theorem PySem.Challenge.cw_figuresort_k67_whole_desk_walked_holds : PySem.Challenge.rw_figuresort_k67_whole_desk_walked.Holds := by
  w_on; o_law
  refine HandSHeadRun.head_any (r := OpenLaw.row PySem.Challenge.rw_figuresort_k67_whole_desk_walked) (q := view (OpenLaw.row PySem.Challenge.rw_figuresort_k67_whole_desk_walked).prog [121]) (H := Fs.hkl) (ob := Fs.obl) (M := 8000) (loose := Fs.loose) (d := HandSHeadRun.topDef (OpenLaw.row PySem.Challenge.rw_figuresort_k67_whole_desk_walked).prog 121) (kwd := []) Fs.obl_eq
    (by kernel_rfl) (fun s => by kernel_rfl) Fs.run_l (by kernel_rfl) (by kernel_rfl) (by kernel_rfl) (by rfl) (by first | assumption | decide +kernel) (by decide +kernel) ⟨rfl, rfl, rfl, rfl, rfl, by decide +kernel⟩ ?hw ?hc
  case hw => w_witness2
  case hc =>
    refine LamX.walk_ofTsE (l := PySem.Challenge.rw_figuresort_k67_whole_desk_walked) (n := 63) (k := 10) (x := "_law_script") (CX := fun _ => L2.CX0) rfl (by decide) (by kernel_rfl) ⟨rfl, by decide, by decide⟩ ?F (fun _ _ _ _ _ z => z)
    intro w mg fa h Y N hmg0
    obtain ⟨K, KX, c⟩ := Y
    have hmg : mg ("law" : PySem.Str) = some (.ref fa) := by
      have e : (HandSHeadRun.topDef (OpenLaw.row PySem.Challenge.rw_figuresort_k67_whole_desk_walked).prog 121).name = ("law" : PySem.Str) := by kernel_rfl
      rw [← e]
      exact hmg0
    exact ⟨K, KX, Fs.law_at KX N hmg c⟩

